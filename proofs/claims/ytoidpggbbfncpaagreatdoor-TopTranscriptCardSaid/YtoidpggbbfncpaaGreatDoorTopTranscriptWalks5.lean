/- What the functions that the law TopTranscript reaches compute: walks, part 5. No condition. -/
import Derived.Test.YtoidpggbbfncpaaGreatDoorCards
import Derived.Test.YtoidpggbbfncpaaGreatDoorTie
import Derived.Deep.DeepHandedRow
import Derived.Test.YtoidpggbbfncpaaGreatDoorRows
import Derived.Test.YtoidpggbbfncpaaGreatDoorTopTranscriptEc3
import Derived.Test.YtoidpggbbfncpaaGreatDoorTopTranscriptRa1
import Derived.Test.YtoidpggbbfncpaaGreatDoorTopTranscriptRb1
import Derived.Test.YtoidpggbbfncpaaGreatDoorTopTranscriptRc1
import Derived.Test.YtoidpggbbfncpaaGreatDoorTopTranscriptWalks
import Derived.Test.YtoidpggbbfncpaaGreatDoorTopTranscriptWalks2
import Derived.Test.YtoidpggbbfncpaaGreatDoorTopTranscriptWalks3
import Derived.Test.YtoidpggbbfncpaaGreatDoorTopTranscriptWalks4
set_option linter.unusedSimpArgs false
set_option linter.unusedVariables false
set_option maxRecDepth 100000
set_option maxHeartbeats 1000000
namespace Go.Proofs.YtoidpggbbfncpaaGreatDoor
open Go Go.Ing Go.RowKit Go.ChangeShapes Go.WideShapes Go.ChangeAt
theorem TH (b:Nat)(T:AE)(g:Hd)(o:Order)(hg:g.len=T.out.length)(hF:T.Fit)(hv:12≤o.verb∧o.verb≤17)(hn:T.out.length≤80000):FO Tryz.prog 107 #[.pointer (some ⟨b,0,none⟩), .agg o.enc.toArray] [Ab.box b 163 (Af.enc ⟨T.w,T.b,g⟩),Ab.own g 56 16 (T.out.flatMap Ing.Event.enc)] (fun w=>(GV 0 AH.DU w∧0 ∉ Ch [Ab.box b 163 (Af.enc ⟨T.w,T.b,g⟩),Ab.own g 56 16 (T.out.flatMap Ing.Event.enc)])) (fun v B=>∃ g':Hd,v = .tuple #[]∧g'.len=(T.set o).out.length∧B = [Ab.box b 163 (Af.enc ⟨(T.set o).w,(T.set o).b,g'⟩),Ab.own g' 56 16 ((T.set o).out.flatMap Ing.Event.enc)]):=by
 intro w hS0 hH
 obtain⟨gl0,gm0⟩:=hH
 have hb:=hF.b
 have hr:=hF.room
 have ho9:=T.K6
 have hs9:=T.JS
 refine Ap _ _ Tryz.func107 J J J (hS0) ?_
 refine Gs ?_
 refine CB J J J (fun b1=>?_)
 refine Gn (.t2 0 3) (Gs (Gt (Al DQ J) (Gt (AI J A8 .m0 Order.l0 J J) (Gt (Ai J J) (Gm J (Bj 13 J J (fun q=>Al DQ J) (Bj 13 J J (fun q=>AI (cF J q) A8 .m0 Order.l0 J J) ?_)))))))
 refine Bj 13 J J (fun q=>Ai (cF J q) J) ?_
 refine Gt (Ba J J (fun h=>by rw [h];rfl)) ?_
 refine Gm J (Bj 18 J J (fun q=>Al DQ J) (Bj 18 J J (fun q=>AI (cF J q) A8 .m0 Order.l0 J J) (Bj 18 J J (fun q=>Ai (cF J q) J) ?_)))
 refine Gt (Ba J J (fun h=>by rw [h];rfl)) ?_
 refine Ga J (Gn (.t3 0 3 4) (Gs (Ga J (Ga J (AR (AA ?_))))))
 refine SK (Lm:= []) (fun(kd:Int) (ev:Int)=>kd=AE.setKind o.verb∧ev=AE.QB o.verb) (fun(kd:Int) (ev:Int)=> [(5, .int .i64 kd),(6, .int .i64 ev)]) (fun(kd:Int) (ev:Int)=> []) (.t3 0 3 4) J ?_ (fun kd ev hC=>?_)
 ·
  refine Gs (Gt (Al DQ J) (Gt (AI J A8 .m0 Order.l0 J J) (Gn (.t6 0 3 4 5 6 24) (Ag (Gs (Gt (Ai J J) (Ga J ?_)))))))
  refine Gn (.t7 0 3 4 5 6 24 25) ?_
  refine Gc (fun c1=>?_) (fun c1=>?_)
  ·
   have c1p:=kz c1
   refine AJ (Ga J ?_)
   refine AR (AB (.t5 0 3 4 5 6) ?_)
   refine AV ?_
   refine Er _ _ ?_ (.t5 5 6 0 3 4) (.refl _)
   · have hv6:o.verb=12∨o.verb=13∨o.verb=14∨o.verb=15∨o.verb=16∨o.verb=17:=by omega
     rcases hv6 with e | e | e | e | e | e<;>(try rw [e] at c1)<;>first | exact⟨by rw [e];rfl,by rw [e];rfl⟩ | exact absurd c1 (by decide)
  have c1p:=kz c1
  refine CL (Gt (Ai J J) (Ga J (Gn (.t7 0 3 4 5 6 24 27) ?_)))
  refine Gc (fun c2=>?_) (fun c2=>?_)
  ·
   have c2p:=kz c2
   refine Aa (AA ?_)
   refine HW J c2 ?_
   refine Gs (Ga J (Ga J (Gn (.t5 0 3 4 5 6) (Gs (Gm J (Gt (BZ J) (Gn (.t6 0 3 4 5 6 31) ?_)))))))
   refine Gc (fun c3=>?_) (fun c3=>?_)
   ·
    have c3p:=kz c3
    refine AJ (Ga J ?_)
    refine AR (AB (.t5 0 3 4 5 6) ?_)
    refine AV ?_
    refine Er _ _ ?_ (.t5 5 6 0 3 4) (.refl _)
    · have hv6:o.verb=12∨o.verb=13∨o.verb=14∨o.verb=15∨o.verb=16∨o.verb=17:=by omega
      rcases hv6 with e | e | e | e | e | e<;>(try rw [e] at c1)<;>(try rw [e] at c2)<;>(try rw [e] at c3)<;>first | exact⟨by rw [e];rfl,by rw [e];rfl⟩ | exact absurd c1 (by decide) | exact absurd c2 (by decide) | exact absurd c3 (by decide)
   have c3p:=kz c3
   refine Aa ?_
   refine AB (.t5 0 3 4 5 6) ?_
   refine AV ?_
   refine Er _ _ ?_ (.t5 5 6 0 3 4) (.refl _)
   · have hv6:o.verb=12∨o.verb=13∨o.verb=14∨o.verb=15∨o.verb=16∨o.verb=17:=by omega
     rcases hv6 with e | e | e | e | e | e<;>(try rw [e] at c1)<;>(try rw [e] at c2)<;>(try rw [e] at c3)<;>first | exact⟨by rw [e];rfl,by rw [e];rfl⟩ | exact absurd c1 (by decide) | exact absurd c2 (by decide) | exact absurd c3 (by decide)
  have c2p:=kz c2
  refine AJ (Gt (Ai J J) (Ga J (Gn (.t7 0 3 4 5 6 24 27) ?_)))
  refine Gc (fun c4=>?_) (fun c4=>?_)
  ·
   have c4p:=kz c4
   refine Gs (Ga J (Ga J (Gn (.t5 0 3 4 5 6) (Gs (Gm J (Gt (BZ J) (Gn (.t6 0 3 4 5 6 31) ?_)))))))
   refine Gc (fun c5=>?_) (fun c5=>?_)
   ·
    have c5p:=kz c5
    refine AJ (Ga J ?_)
    refine AR (AB (.t5 0 3 4 5 6) ?_)
    refine AV ?_
    refine Er _ _ ?_ (.t5 5 6 0 3 4) (.refl _)
    · have hv6:o.verb=12∨o.verb=13∨o.verb=14∨o.verb=15∨o.verb=16∨o.verb=17:=by omega
      rcases hv6 with e | e | e | e | e | e<;>(try rw [e] at c1)<;>(try rw [e] at c2)<;>(try rw [e] at c4)<;>(try rw [e] at c5)<;>first | exact⟨by rw [e];rfl,by rw [e];rfl⟩ | exact absurd c1 (by decide) | exact absurd c2 (by decide) | exact absurd c4 (by decide) | exact absurd c5 (by decide)
   have c5p:=kz c5
   refine Aa ?_
   refine AB (.t5 0 3 4 5 6) ?_
   refine AV ?_
   refine Er _ _ ?_ (.t5 5 6 0 3 4) (.refl _)
   · have hv6:o.verb=12∨o.verb=13∨o.verb=14∨o.verb=15∨o.verb=16∨o.verb=17:=by omega
     rcases hv6 with e | e | e | e | e | e<;>(try rw [e] at c1)<;>(try rw [e] at c2)<;>(try rw [e] at c4)<;>(try rw [e] at c5)<;>first | exact⟨by rw [e];rfl,by rw [e];rfl⟩ | exact absurd c1 (by decide) | exact absurd c2 (by decide) | exact absurd c4 (by decide) | exact absurd c5 (by decide)
  have c4p:=kz c4
  refine CL (Gt (Ai J J) (Ga J (Gn (.t7 0 3 4 5 6 24 32) ?_)))
  refine Gc (fun c6=>?_) (fun c6=>?_)
  ·
   have c6p:=kz c6
   refine Aa ?_
   refine AB (.t6 0 3 4 5 6 32) ?_
   refine AA ?_
   refine HW J c6 ?_
   refine Gs (Ga J (Ga J (Gn (.t5 0 3 4 5 6) (Gs (Gm J (Gt (BZ J) (Gn (.t6 0 3 4 5 6 36) ?_)))))))
   refine Gc (fun c7=>?_) (fun c7=>?_)
   ·
    have c7p:=kz c7
    refine AJ (Ga J ?_)
    refine AR (AB (.t5 0 3 4 5 6) ?_)
    refine AV ?_
    refine Er _ _ ?_ (.t5 5 6 0 3 4) (.refl _)
    · have hv6:o.verb=12∨o.verb=13∨o.verb=14∨o.verb=15∨o.verb=16∨o.verb=17:=by omega
      rcases hv6 with e | e | e | e | e | e<;>(try rw [e] at c1)<;>(try rw [e] at c2)<;>(try rw [e] at c4)<;>(try rw [e] at c6)<;>(try rw [e] at c7)<;>first | exact⟨by rw [e];rfl,by rw [e];rfl⟩ | exact absurd c1 (by decide) | exact absurd c2 (by decide) | exact absurd c4 (by decide) | exact absurd c6 (by decide) | exact absurd c7 (by decide)
   have c7p:=kz c7
   refine Aa ?_
   refine AB (.t5 0 3 4 5 6) ?_
   refine AV ?_
   refine Er _ _ ?_ (.t5 5 6 0 3 4) (.refl _)
   · have hv6:o.verb=12∨o.verb=13∨o.verb=14∨o.verb=15∨o.verb=16∨o.verb=17:=by omega
     rcases hv6 with e | e | e | e | e | e<;>(try rw [e] at c1)<;>(try rw [e] at c2)<;>(try rw [e] at c4)<;>(try rw [e] at c6)<;>(try rw [e] at c7)<;>first | exact⟨by rw [e];rfl,by rw [e];rfl⟩ | exact absurd c1 (by decide) | exact absurd c2 (by decide) | exact absurd c4 (by decide) | exact absurd c6 (by decide) | exact absurd c7 (by decide)
  have c6p:=kz c6
  refine AJ (Gt (Ai J J) (Ga J (Gn (.t6 0 3 4 5 6 32) ?_)))
  refine Gc (fun c8=>?_) (fun c8=>?_)
  ·
   have c8p:=kz c8
   refine Gs (Ga J (Ga J (Gn (.t5 0 3 4 5 6) (Gs (Gm J (Gt (BZ J) (Gn (.t6 0 3 4 5 6 36) ?_)))))))
   refine Gc (fun c9=>?_) (fun c9=>?_)
   ·
    have c9p:=kz c9
    refine AJ (Ga J ?_)
    refine AR (AB (.t5 0 3 4 5 6) ?_)
    refine AV ?_
    refine Er _ _ ?_ (.t5 5 6 0 3 4) (.refl _)
    · have hv6:o.verb=12∨o.verb=13∨o.verb=14∨o.verb=15∨o.verb=16∨o.verb=17:=by omega
      rcases hv6 with e | e | e | e | e | e<;>(try rw [e] at c1)<;>(try rw [e] at c2)<;>(try rw [e] at c4)<;>(try rw [e] at c6)<;>(try rw [e] at c8)<;>(try rw [e] at c9)<;>first | exact⟨by rw [e];rfl,by rw [e];rfl⟩ | exact absurd c1 (by decide) | exact absurd c2 (by decide) | exact absurd c4 (by decide) | exact absurd c6 (by decide) | exact absurd c8 (by decide) | exact absurd c9 (by decide)
   have c9p:=kz c9
   refine Aa ?_
   refine AB (.t5 0 3 4 5 6) ?_
   refine AV ?_
   refine Er _ _ ?_ (.t5 5 6 0 3 4) (.refl _)
   · have hv6:o.verb=12∨o.verb=13∨o.verb=14∨o.verb=15∨o.verb=16∨o.verb=17:=by omega
     rcases hv6 with e | e | e | e | e | e<;>(try rw [e] at c1)<;>(try rw [e] at c2)<;>(try rw [e] at c4)<;>(try rw [e] at c6)<;>(try rw [e] at c8)<;>(try rw [e] at c9)<;>first | exact⟨by rw [e];rfl,by rw [e];rfl⟩ | exact absurd c1 (by decide) | exact absurd c2 (by decide) | exact absurd c4 (by decide) | exact absurd c6 (by decide) | exact absurd c8 (by decide) | exact absurd c9 (by decide)
  have c8p:=kz c8
  refine Aa ?_
  refine AB (.t5 0 3 4 5 6) ?_
  refine AV ?_
  refine Er _ _ ?_ (.t5 5 6 0 3 4) (.refl _)
  · have hv6:o.verb=12∨o.verb=13∨o.verb=14∨o.verb=15∨o.verb=16∨o.verb=17:=by omega
    rcases hv6 with e | e | e | e | e | e<;>(try rw [e] at c1)<;>(try rw [e] at c2)<;>(try rw [e] at c4)<;>(try rw [e] at c6)<;>(try rw [e] at c8)<;>first | exact⟨by rw [e];rfl,by rw [e];rfl⟩ | exact absurd c1 (by decide) | exact absurd c2 (by decide) | exact absurd c4 (by decide) | exact absurd c6 (by decide) | exact absurd c8 (by decide)
 obtain⟨rfl,rfl⟩:=hC
 refine CL (Gt (Al GR J) (Gt (AI J CO .m0 Order.l3 J J) ?_))
 refine BC J fX (.c J .n) (fun w hS=>Kr _ w (gl0.stM gm0 hS)) ?_
 refine Gm J (Gt (AM J J) (Gt (AM J J) (Ga J (Ga J (Gn (.t7 0 3 4 5 6 7 8) (Gs (Gm J ?_)))))))
 refine Gm J (Bp 44 J J (fun q=>AF J) (Bp 44 J J (fun q=>Ai (Bo J q) J) (Gt (BQ J J (fun h=>h)) (Gn (.t7 0 3 4 5 6 7 47) ?_))))
 refine Gc (fun c10=>?_) (fun c10=>?_)
 ·
  have c10p:=kz c10
  refine Gs (Gm J (Gm J (Gm J (Gm J ?_))))
  refine Ak J fP (.c J (.c J (.c J (.c J .n)))) (.c (.t .h) (.c (.t .h) .n)) (SW _ T _ _ _ _ hg hF (Words.WA (Bool.and_eq_true_iff.1 c10).1) (by omega)) (fun v1 B hv=>?_)
  obtain⟨y2,rfl,y3,rfl⟩:=hv
  refine Gn (.nil _) (Ac (AD ?_))
  refine AY J .n ?_
  intro w1 hS
  have hS:=(hS.perm (Ax.perm (.c .h (.c .h .n)))).A5
  have hq:T.set o=_:=(BG c10)
  refine⟨_,⟨?gq1,J,?hl1,?hB1⟩,hS⟩
  case hB1=>rw [hq];(try rfl)
  case hl1=>rw [hq];assumption
 have c10p:=kz c10
 refine Aa ?_
 refine AB (.t5 0 3 4 5 6) ?_
 refine AA (Gs (Gm J ?_))
 refine Ak J WU (.c J .n) (.c (.t .h) .n) (Ib _ T _ hF) (fun v4 B hv=>?_)
 obtain⟨y5,rfl,y6,rfl⟩:=hv
 refine Ga J (Gn (.t6 0 3 4 5 6 9) (CL (Gm J (Gt (Ai J J) (Gn (.t7 0 3 4 5 6 9 56) ?_)))))
 refine Gc (fun c11=>?_) (fun c11=>?_)
 ·
  have c11p:=kz c11
  refine AJ (Gm J (Gm J ?_))
  refine Ak J ZO (.c J .n) (.c .h .n) (Jq _ T _ hF) (fun v8 B hv=>?_)
  obtain⟨y9,rfl,y10,rfl⟩:=hv
  refine CW B9 J Tryz.underlying169 DO fJ J iZ (by decide) (by decide) J J (fun w hS=>Src.D4 Tryz.underlying169 ((Kn.own .m1) w hS)) (by(try dsimp only);omega) (fun _=>(.t (.t .h))) (fun h12 h12l h12z=>?_)
  refine Ga J (Gn (.t6 0 3 4 5 6 9) (Gs (Gm J (Gm J (Gt (Al G2 J) (Gt (AI J A8 .m3 Order.l1 J J) (Gt (Mq J J) ?_)))))))
  refine Gt (Al GR J) (Gt (AI J CO .m3 Order.l3 J J) ?_)
  refine Ak J RY (.c J (.c J (.c J (.c J (.c J .n))))) (.c .h (.c (.t .h) .n)) (FB _ T _ _ (T.own++T.seen) _ _ _ hF (by rw [List.length_append];omega) (by rw [List.length_append];omega) (fun i hi=>AE.R9 hi)) (fun v13 B hv=>?_)
  obtain⟨y14,rfl,y15,rfl⟩:=hv
  refine Ga J (Gn (.t5 0 4 5 6 9) (Ag (Aq ?_)))
  have hx0:=AE.Sx (l:=(AE.BX T.w (T.own++T.seen) (max o.nth 1) o.name false)) (fun i hi=>AE.R9 (AE.D6 hi))
  refine BE (N:=18) [0,1,3,7,15,15,47,111,31,287,799,2047,4095,8191,15,32767,65535,131071] mix (by kernel_rfl) J ?_
  refine Pf 0 J (AF J) (Pf 1 J (Au J Tryz.underlying169 J) (Pf 2 J (Ai J J) (Pf 3 J (AF J) (IN 4 82 J J J (fun q=>AF J) (IN 5 82 J J J (fun q=>AF J) ?_)))))
  refine BI 6 J J (by kernel_rfl) (Hf (t:=82) J J (fun q=>by have q1:=q;(try simp at q1);exact F6 (Bz HL (by decide) (Kn.own .m2) (cF rfl q) rfl (by omega) (by first | omega | (simp at q ⊢;omega))))) ?_
  refine BI 7 J J (by kernel_rfl) (Hf (t:=82) J J (fun q=>by have q1:=q;(try simp at q1);exact F6 (DT (cF rfl q) A8 (Kn.own .m2) (by first | omega | (simp at q ⊢;omega))))) ?_
  refine IN 8 82 J J J (fun q=>Bb (cF J q)) (IN 9 82 J J J (fun q=>Al BB (cF J q)) (IN 10 82 J J J (fun q=>Al C6 (cF J q)) ?_))
  refine BI 11 J J (by kernel_rfl) (Hf (t:=82) J J (fun q=>by have q1:=q;(try simp at q1);exact F6 (AQ Gq (cF rfl q) (cF rfl q) (by first | omega | exact hb.1 | exact hb.2 | exact hx0.1 | exact hx0.2 | (dsimp only;omega)) (by first | omega | exact hb.1 | exact hb.2 | exact hx0.1 | exact hx0.2 | (dsimp only;omega))))) ?_
  refine IN 12 82 J J J (fun q=>Al HR (cF J q)) ?_
  refine BI 13 J J (by kernel_rfl) (Hf (t:=82) J J (fun q=>by have q1:=q;(try simp at q1);exact F6 (AI (cF rfl q) A8 .m0 (((Af.l0.comp AH.l1).comp (AU.ar (n:=9) An.fl (by first | omega | exact hb | exact hx0 | (dsimp only;omega)))).comp An.l1) rfl rfl))) ?_
  refine IN 14 82 J J J (fun q=>AF J) (IN 15 82 J J J (fun q=>Cm (cF J q) (cF J q)) ?_)
  refine Pf 16 J (Ba J J (fun h=>by rw [h];rfl)) ?_
  refine Pf 17 J (A0 J) ?_
  refine A2 (by kernel_rfl) ?_
  refine AB (.t6 0 4 5 6 9 78) ?_
  refine AA ?_
  refine Gc (fun c12=>?_) (fun c12=>?_)
  ·
   have c12p:=kz c12
   rw [y15] at c12 c12p
   have hsl:T.Eg o=(AE.BX T.w (T.own++T.seen) (max o.nth 1) o.name false):=congrArg (fun q=>AE.BX T.w q _ _ _) (BG c11)
   refine AJ (Gm J ?_)
   refine Ak J EV (.c J (.c J .n)) (.c .h (.c (.t (.t (.t (.t .h)))) .n)) (Bi _ _ _ _ hg hb (by omega)) (fun v17 B hv=>?_)
   obtain⟨y18,rfl,y19,rfl⟩:=hv
   refine AR (AB (.nil _) ?_)
   refine AV ?_
   refine Bs J .n ?_
   intro w1 hS
   have hS:=(hS.perm (Ax.perm (.c .h (.c .h .n)))).A5
   have d0:(decide (((T.Eg o).length:Int)=0) || !decide ((T.w.AP.at ((T.Eg o).getD 0 0)).kind=AE.setKind o.verb))=true:=by rw [hsl];exact c12
   have hq:T.set o=_:=(AX c10).trans (BG d0)
   (try rw [hsl] at hq)
   refine⟨_,⟨?gq2,J,?hl2,?hB2⟩,hS⟩
   case hB2=>rw [hq];(try rfl)
   case hl2=>rw [hq];assumption
  have c12p:=kz c12
  rw [y15] at c12 c12p
  have hsl:T.Eg o=(AE.BX T.w (T.own++T.seen) (max o.nth 1) o.name false):=congrArg (fun q=>AE.BX T.w q _ _ _) (BG c11)
  refine Aq ?_
  refine BE (N:=13) [0,0,2,6,1,17,49,127,255,511,0,2047,4095] mix (by kernel_rfl) J ?_
  refine Pf 0 J (AF J) (Pf 1 J (AF J) ?_)
  refine Pf 2 J (Bz HL (by decide) (Kn.own .m2) J J (by omega) (by first | omega | (simp at q ⊢;omega))) ?_
  refine Pf 3 J (DT J A8 (Kn.own .m2) (by first | omega | (simp at q ⊢;omega))) ?_
  refine Pf 4 J (Bb J) (Pf 5 J (Al BB J) (Pf 6 J (Al C6 J) ?_))
  refine Pf 7 J (AQ Gq J J (by first | omega | exact hb.1 | exact hb.2 | exact hx0.1 | exact hx0.2 | (dsimp only;omega)) (by first | omega | exact hb.1 | exact hb.2 | exact hx0.1 | exact hx0.2 | (dsimp only;omega))) ?_
  refine Pf 8 J (Al Gi J) ?_
  refine Pf 9 J (AI J D3 .m0 (((Af.l0.comp AH.l1).comp (AU.ar (n:=9) An.fl (by first | omega | exact hb | exact hx0 | (dsimp only;omega)))).comp An.l4) J J) ?_
  refine Pf 10 J (AF J) (Pf 11 J (Kb Tryz.underlying4 J J) (Pf 12 J (A0 J) ?_))
  refine A2 (by kernel_rfl) ?_
  refine AB (.t6 0 4 5 6 9 98) ?_
  refine AA ?_
  refine Gc (fun c13=>?_) (fun c13=>?_)
  ·
   have c13p:=kz c13
   refine AJ (Gm J ?_)
   refine Ak J EV (.c J (.c J .n)) (.c .h (.c (.t (.t (.t (.t .h)))) .n)) (Bi _ _ _ _ hg hb (by omega)) (fun v20 B hv=>?_)
   obtain⟨y21,rfl,y22,rfl⟩:=hv
   refine AR (AB (.nil _) ?_)
   refine AV ?_
   refine Bs J .n ?_
   intro w1 hS
   have hS:=(hS.perm (Ax.perm (.c .h (.c .h .n)))).A5
   have d0:(decide (((T.Eg o).length:Int)=0) || !decide ((T.w.AP.at ((T.Eg o).getD 0 0)).kind=AE.setKind o.verb))=false:=by rw [hsl];exact c12
   have d1:((T.w.AP.at ((T.Eg o).getD 0 0)).on == AE.IK o.verb)=true:=by rw [hsl];exact c13
   have hq:T.set o=_:=(AX c10).trans ((AX d0).trans (BG d1))
   (try rw [hsl] at hq)
   refine⟨_,⟨?gq3,J,?hl3,?hB3⟩,hS⟩
   case hB3=>rw [hq];(try rfl)
   case hl3=>rw [hq];assumption
  have c13p:=kz c13
  refine Gs (Gm J (Ga J (Gn (.t6 0 4 5 6 9 113) ?_)))
  refine Gc (fun c14=>?_) (fun c14=>?_)
  ·
   have c14p:=kz c14
   refine AJ (Gm J (Gm J (Gt (Cm J J) (Gm J ?_))))
   refine Gt (Bz HL (by decide) (Kn.own .m2) J J (by omega) (by first | omega | (simp at q ⊢;omega))) ?_
   refine Gt (DT J A8 (Kn.own .m2) (by first | omega | (simp at q ⊢;omega))) ?_
   refine Gm J (Gm J ?_)
   refine Ak J Wn (.c J (.c J (.c J (.c J (.c J .n))))) (.c .h (.c (.t (.t (.t (.t .h)))) .n)) (F9 _ T _ (!decide (AE.setKind o.verb=2)) ((AE.BX T.w (T.own++T.seen) (max o.nth 1) o.name false).getD (0:Int).toNat 0) _ _ hg hb hx0 (by omega)) (fun v23 B hv=>?_)
   obtain⟨y24,rfl,y25,rfl⟩:=hv
   refine AR (AB (.nil _) ?_)
   refine AV ?_
   refine Bs J .n ?_
   intro w1 hS
   have hS:=(hS.perm (Ax.perm (.c .h (.c .h .n)))).A5
   have d0:(decide (((T.Eg o).length:Int)=0) || !decide ((T.w.AP.at ((T.Eg o).getD 0 0)).kind=AE.setKind o.verb))=false:=by rw [hsl];exact c12
   have d1:((T.w.AP.at ((T.Eg o).getD 0 0)).on == AE.IK o.verb)=false:=by rw [hsl];exact c13
   have d2:AE.IK o.verb=true:=c14
   have hq:T.set o=_:=(AX c10).trans ((AX d0).trans ((AX d1).trans (BG d2)))
   (try rw [hsl] at hq)
   refine⟨_,⟨?gq4,J,?hl4,?hB4⟩,hS⟩
   case hB4=>rw [hq];(try rfl)
   case hl4=>rw [hq];assumption
  have c14p:=kz c14
  refine AJ (Gm J (Gm J (Gt (Ai J J) (Gm J ?_))))
  refine Gt (Bz HL (by decide) (Kn.own .m2) J J (by omega) (by first | omega | (simp at q ⊢;omega))) ?_
  refine Gt (DT J A8 (Kn.own .m2) (by first | omega | (simp at q ⊢;omega))) ?_
  refine Gm J (Gm J ?_)
  refine Ak J Wn (.c J (.c J (.c J (.c J (.c J .n))))) (.c .h (.c (.t (.t (.t (.t .h)))) .n)) (F9 _ T _ (decide (AE.setKind o.verb=2)) ((AE.BX T.w (T.own++T.seen) (max o.nth 1) o.name false).getD (0:Int).toNat 0) _ _ hg hb hx0 (by omega)) (fun v26 B hv=>?_)
  obtain⟨y27,rfl,y28,rfl⟩:=hv
  refine AR (AB (.nil _) ?_)
  refine AV ?_
  refine Bs J .n ?_
  intro w1 hS
  have hS:=(hS.perm (Ax.perm (.c .h (.c .h .n)))).A5
  have d0:(decide (((T.Eg o).length:Int)=0) || !decide ((T.w.AP.at ((T.Eg o).getD 0 0)).kind=AE.setKind o.verb))=false:=by rw [hsl];exact c12
  have d1:((T.w.AP.at ((T.Eg o).getD 0 0)).on == AE.IK o.verb)=false:=by rw [hsl];exact c13
  have d2:AE.IK o.verb=false:=c14
  have hq:T.set o=_:=(AX c10).trans ((AX d0).trans ((AX d1).trans (AX d2)))
  (try rw [hsl] at hq)
  refine⟨_,⟨?gq5,J,?hl5,?hB5⟩,hS⟩
  case hB5=>rw [hq];(try rfl)
  case hl5=>rw [hq];assumption
 have c11p:=kz c11
 refine Aa ?_
 refine AB (.t6 0 3 4 5 6 9) ?_
 refine AA (Gs (Gm J (Gm J (Gt (Al G2 J) (Gt (AI J A8 .m2 Order.l1 J J) (Gt (Mq J J) (Gt (Al GR J) ?_)))))))
 refine Gt (AI J CO .m2 Order.l3 J J) ?_
 refine Ak J RY (.c J (.c J (.c J (.c J (.c J .n))))) (.c .h (.c .h .n)) (FB _ T _ _ T.own _ _ _ hF (by assumption) (by omega) (fun i hi=>AE.Ml hi)) (fun v29 B hv=>?_)
 obtain⟨y30,rfl,y31,rfl⟩:=hv
 refine Ga J (Gn (.t5 0 4 5 6 9) (Ag (Aq ?_)))
 have hx0:=AE.Sx (l:=(AE.BX T.w T.own (max o.nth 1) o.name false)) (fun i hi=>AE.Ml (AE.D6 hi))
 refine BE (N:=18) [0,1,3,7,15,15,47,111,31,287,799,2047,4095,8191,15,32767,65535,131071] mix (by kernel_rfl) J ?_
 refine Pf 0 J (AF J) (Pf 1 J (Au J Tryz.underlying169 J) (Pf 2 J (Ai J J) (Pf 3 J (AF J) (IN 4 82 J J J (fun q=>AF J) (IN 5 82 J J J (fun q=>AF J) ?_)))))
 refine BI 6 J J (by kernel_rfl) (Hf (t:=82) J J (fun q=>by have q1:=q;(try simp at q1);exact F6 (Bz HL (by decide) (Kn.own .m2) (cF rfl q) rfl (by omega) (by first | omega | (simp at q ⊢;omega))))) ?_
 refine BI 7 J J (by kernel_rfl) (Hf (t:=82) J J (fun q=>by have q1:=q;(try simp at q1);exact F6 (DT (cF rfl q) A8 (Kn.own .m2) (by first | omega | (simp at q ⊢;omega))))) ?_
 refine IN 8 82 J J J (fun q=>Bb (cF J q)) (IN 9 82 J J J (fun q=>Al BB (cF J q)) (IN 10 82 J J J (fun q=>Al C6 (cF J q)) ?_))
 refine BI 11 J J (by kernel_rfl) (Hf (t:=82) J J (fun q=>by have q1:=q;(try simp at q1);exact F6 (AQ Gq (cF rfl q) (cF rfl q) (by first | omega | exact hb.1 | exact hb.2 | exact hx0.1 | exact hx0.2 | (dsimp only;omega)) (by first | omega | exact hb.1 | exact hb.2 | exact hx0.1 | exact hx0.2 | (dsimp only;omega))))) ?_
 refine IN 12 82 J J J (fun q=>Al HR (cF J q)) ?_
 refine BI 13 J J (by kernel_rfl) (Hf (t:=82) J J (fun q=>by have q1:=q;(try simp at q1);exact F6 (AI (cF rfl q) A8 .m0 (((Af.l0.comp AH.l1).comp (AU.ar (n:=9) An.fl (by first | omega | exact hb | exact hx0 | (dsimp only;omega)))).comp An.l1) rfl rfl))) ?_
 refine IN 14 82 J J J (fun q=>AF J) (IN 15 82 J J J (fun q=>Cm (cF J q) (cF J q)) ?_)
 refine Pf 16 J (Ba J J (fun h=>by rw [h];rfl)) ?_
 refine Pf 17 J (A0 J) ?_
 refine A2 (by kernel_rfl) ?_
 refine AB (.t6 0 4 5 6 9 78) ?_
 refine AA ?_
 refine Gc (fun c15=>?_) (fun c15=>?_)
 ·
  have c15p:=kz c15
  rw [y31] at c15 c15p
  have hsl:T.Eg o=(AE.BX T.w T.own (max o.nth 1) o.name false):=congrArg (fun q=>AE.BX T.w q _ _ _) (AX c11)
  refine AJ (Gm J ?_)
  refine Ak J EV (.c J (.c J .n)) (.c .h (.c (.t (.t (.t .h))) .n)) (Bi _ _ _ _ hg hb (by omega)) (fun v33 B hv=>?_)
  obtain⟨y34,rfl,y35,rfl⟩:=hv
  refine AR (AB (.nil _) ?_)
  refine AV ?_
  refine Bs J .n ?_
  intro w1 hS
  have hS:=(hS.perm (Ax.perm (.c .h (.c .h .n)))).A5
  have d0:(decide (((T.Eg o).length:Int)=0) || !decide ((T.w.AP.at ((T.Eg o).getD 0 0)).kind=AE.setKind o.verb))=true:=by rw [hsl];exact c15
  have hq:T.set o=_:=(AX c10).trans (BG d0)
  (try rw [hsl] at hq)
  refine⟨_,⟨?gq6,J,?hl6,?hB6⟩,hS⟩
  case hB6=>rw [hq];(try rfl)
  case hl6=>rw [hq];assumption
 have c15p:=kz c15
 rw [y31] at c15 c15p
 have hsl:T.Eg o=(AE.BX T.w T.own (max o.nth 1) o.name false):=congrArg (fun q=>AE.BX T.w q _ _ _) (AX c11)
 refine Aq ?_
 refine BE (N:=13) [0,0,2,6,1,17,49,127,255,511,0,2047,4095] mix (by kernel_rfl) J ?_
 refine Pf 0 J (AF J) (Pf 1 J (AF J) ?_)
 refine Pf 2 J (Bz HL (by decide) (Kn.own .m2) J J (by omega) (by first | omega | (simp at q ⊢;omega))) ?_
 refine Pf 3 J (DT J A8 (Kn.own .m2) (by first | omega | (simp at q ⊢;omega))) ?_
 refine Pf 4 J (Bb J) (Pf 5 J (Al BB J) (Pf 6 J (Al C6 J) ?_))
 refine Pf 7 J (AQ Gq J J (by first | omega | exact hb.1 | exact hb.2 | exact hx0.1 | exact hx0.2 | (dsimp only;omega)) (by first | omega | exact hb.1 | exact hb.2 | exact hx0.1 | exact hx0.2 | (dsimp only;omega))) ?_
 refine Pf 8 J (Al Gi J) ?_
 refine Pf 9 J (AI J D3 .m0 (((Af.l0.comp AH.l1).comp (AU.ar (n:=9) An.fl (by first | omega | exact hb | exact hx0 | (dsimp only;omega)))).comp An.l4) J J) ?_
 refine Pf 10 J (AF J) (Pf 11 J (Kb Tryz.underlying4 J J) (Pf 12 J (A0 J) ?_))
 refine A2 (by kernel_rfl) ?_
 refine AB (.t6 0 4 5 6 9 98) ?_
 refine AA ?_
 refine Gc (fun c16=>?_) (fun c16=>?_)
 ·
  have c16p:=kz c16
  refine AJ (Gm J ?_)
  refine Ak J EV (.c J (.c J .n)) (.c .h (.c (.t (.t (.t .h))) .n)) (Bi _ _ _ _ hg hb (by omega)) (fun v36 B hv=>?_)
  obtain⟨y37,rfl,y38,rfl⟩:=hv
  refine AR (AB (.nil _) ?_)
  refine AV ?_
  refine Bs J .n ?_
  intro w1 hS
  have hS:=(hS.perm (Ax.perm (.c .h (.c .h .n)))).A5
  have d0:(decide (((T.Eg o).length:Int)=0) || !decide ((T.w.AP.at ((T.Eg o).getD 0 0)).kind=AE.setKind o.verb))=false:=by rw [hsl];exact c15
  have d1:((T.w.AP.at ((T.Eg o).getD 0 0)).on == AE.IK o.verb)=true:=by rw [hsl];exact c16
  have hq:T.set o=_:=(AX c10).trans ((AX d0).trans (BG d1))
  (try rw [hsl] at hq)
  refine⟨_,⟨?gq7,J,?hl7,?hB7⟩,hS⟩
  case hB7=>rw [hq];(try rfl)
  case hl7=>rw [hq];assumption
 have c16p:=kz c16
 refine Gs (Gm J (Ga J (Gn (.t6 0 4 5 6 9 113) ?_)))
 refine Gc (fun c17=>?_) (fun c17=>?_)
 ·
  have c17p:=kz c17
  refine AJ (Gm J (Gm J (Gt (Cm J J) (Gm J ?_))))
  refine Gt (Bz HL (by decide) (Kn.own .m2) J J (by omega) (by first | omega | (simp at q ⊢;omega))) ?_
  refine Gt (DT J A8 (Kn.own .m2) (by first | omega | (simp at q ⊢;omega))) ?_
  refine Gm J (Gm J ?_)
  refine Ak J Wn (.c J (.c J (.c J (.c J (.c J .n))))) (.c .h (.c (.t (.t (.t .h))) .n)) (F9 _ T _ (!decide (AE.setKind o.verb=2)) ((AE.BX T.w T.own (max o.nth 1) o.name false).getD (0:Int).toNat 0) _ _ hg hb hx0 (by omega)) (fun v39 B hv=>?_)
  obtain⟨y40,rfl,y41,rfl⟩:=hv
  refine AR (AB (.nil _) ?_)
  refine AV ?_
  refine Bs J .n ?_
  intro w1 hS
  have hS:=(hS.perm (Ax.perm (.c .h (.c .h .n)))).A5
  have d0:(decide (((T.Eg o).length:Int)=0) || !decide ((T.w.AP.at ((T.Eg o).getD 0 0)).kind=AE.setKind o.verb))=false:=by rw [hsl];exact c15
  have d1:((T.w.AP.at ((T.Eg o).getD 0 0)).on == AE.IK o.verb)=false:=by rw [hsl];exact c16
  have d2:AE.IK o.verb=true:=c17
  have hq:T.set o=_:=(AX c10).trans ((AX d0).trans ((AX d1).trans (BG d2)))
  (try rw [hsl] at hq)
  refine⟨_,⟨?gq8,J,?hl8,?hB8⟩,hS⟩
  case hB8=>rw [hq];(try rfl)
  case hl8=>rw [hq];assumption
 have c17p:=kz c17
 refine AJ (Gm J (Gm J (Gt (Ai J J) (Gm J ?_))))
 refine Gt (Bz HL (by decide) (Kn.own .m2) J J (by omega) (by first | omega | (simp at q ⊢;omega))) ?_
 refine Gt (DT J A8 (Kn.own .m2) (by first | omega | (simp at q ⊢;omega))) ?_
 refine Gm J (Gm J ?_)
 refine Ak J Wn (.c J (.c J (.c J (.c J (.c J .n))))) (.c .h (.c (.t (.t (.t .h))) .n)) (F9 _ T _ (decide (AE.setKind o.verb=2)) ((AE.BX T.w T.own (max o.nth 1) o.name false).getD (0:Int).toNat 0) _ _ hg hb hx0 (by omega)) (fun v42 B hv=>?_)
 obtain⟨y43,rfl,y44,rfl⟩:=hv
 refine AR (AB (.nil _) ?_)
 refine AV ?_
 refine Bs J .n ?_
 intro w1 hS
 have hS:=(hS.perm (Ax.perm (.c .h (.c .h .n)))).A5
 have d0:(decide (((T.Eg o).length:Int)=0) || !decide ((T.w.AP.at ((T.Eg o).getD 0 0)).kind=AE.setKind o.verb))=false:=by rw [hsl];exact c15
 have d1:((T.w.AP.at ((T.Eg o).getD 0 0)).on == AE.IK o.verb)=false:=by rw [hsl];exact c16
 have d2:AE.IK o.verb=false:=c17
 have hq:T.set o=_:=(AX c10).trans ((AX d0).trans ((AX d1).trans (AX d2)))
 (try rw [hsl] at hq)
 refine⟨_,⟨?gq9,J,?hl9,?hB9⟩,hS⟩
 case hB9=>rw [hq];(try rfl)
 case hl9=>rw [hq];assumption
theorem G3 (X:AH)(b:Int)(o:Order)(hw:X.DV)(hu:o.second.length≤5000000)(hm:o.name.length≤5000000):FO Tryz.prog 84 #[.agg X.enc.toArray, .int .i64 b, .agg o.enc.toArray] [] (fun w=>(GV 0 AH.DU w∧0 ∉ Ch [])∧(HP 7 w∧7 ∉ Ch [])∧(HP 8 w∧8 ∉ Ch [])) (fun v B=>∃ h:Hd,v = .tuple #[.agg ((AE.EJ X b o).1.enc).toArray,h.val, .int .i64 (AE.EJ X b o).2.2]∧h.len=(AE.EJ X b o).2.1.length∧B = [Ab.own h 56 16 ((AE.EJ X b o).2.1.flatMap Ing.Event.enc)]):=by
 intro w hS0 hH
 obtain⟨⟨gl0,gm0⟩,⟨gl1,gm1⟩,⟨gl2,gm2⟩⟩:=hH
 refine Ap _ _ Tryz.func84 J J J (hS0) ?_
 refine Gs ?_
 refine CB J J J (fun b1=>?_)
 refine CB J J J (fun b2=>?_)
 refine BJ J N8 J (fun b3=>?_)
 refine Ga J (Ga J (Gn (.t4 1 3 5 6) (Aq (Ag (Gs (Gt (AZ J Bf .m2 (AU.id AH.fl.len AH.fl.one) J) ?_))))))
 refine BC J dh (.c J .n) (fun w hS=>H6 _ w) ?_
 refine Gt (BZ J) (Ga J (Gn (.t5 1 3 5 6 10) ?_))
 refine Gc (fun c1=>?_) (fun c1=>?_)
 ·
  refine Gs (Gt (AZ J Bf .m2 (AU.id AH.fl.len AH.fl.one) J) ?_)
  refine AT (AL (AU.id AH.fl.len AH.fl.one) J J J EP J .h) ?_
  refine Ga J (Ga J (Gn (.t3 6 7 8) (Ac (AS (AD ?_)))))
  refine AY J (.cell J .m0 (.inl ⟨(by rw [AH.fl.len];exact Bf),J⟩) (.tmp J (.tmp J .n))) ?_
  intro w1 hS
  have hS:=hS.Cx 56 16
  have hS:=(hS.perm (Ax.perm (.c .h .n))).A5
  have hq:AE.EJ X b o=_:=(BG c1)
  refine⟨_,⟨⟨none,0,0⟩,?hv1,?hl1,?hB1⟩,hS⟩
  case hv1=>rw [hq];rfl
  case hl1=>rw [hq];rfl
  case hB1=>rw [hq];rfl
 have c1p:=kz c1
 refine Gs (Gm J (Gt (BA J J) (Gm J (Bj 18 J J (fun q=>AF J) (Bj 18 J J (fun q=>CZ (cF J q) J) ?_)))))
 refine Gt (Ba J J (fun h=>by rw [h];rfl)) ?_
 refine Gm J (Bj 22 J J (fun q=>AF J) (Bj 22 J J (fun q=>Al Bx J) ?_))
 refine Bj 22 J J (fun q=>by have q1:=q;(try simp at q1);exact AQ DI (cF rfl q) (cF rfl q) (by first | omega | exact hb.1 | exact hb.2 | (dsimp only;omega)) (by first | omega | exact hb.1 | exact hb.2 | (dsimp only;omega))) ?_
 refine Bj 22 J J (fun q=>Al JA (cF J q)) ?_
 refine Bj 22 J J (fun q=>by have q1:=q;(try simp at q1);exact AI (cF rfl q) D3 .m2 ((AH.l2.comp (AU.ar (n:=6) Am.fl (by first | omega | exact hb | (dsimp only;omega)))).comp Am.l1) rfl rfl) ?_
 refine Bj 22 J J (fun q=>BZ (cF J q)) ?_
 refine Gt (Ba J J (fun h=>by rw [h];rfl)) ?_
 refine Ga J (Gn (.t5 1 3 5 6 15) ?_)
 refine Gc (fun c2=>?_) (fun c2=>?_)
 ·
  refine Gs (Gt (AZ J Bf .m2 (AU.id AH.fl.len AH.fl.one) J) ?_)
  refine AT (AL (AU.id AH.fl.len AH.fl.one) J J J EP J .h) ?_
  refine Ga J (Ga J (Gn (.t3 6 7 8) (Ac (AS (AD ?_)))))
  refine AY J (.cell J .m0 (.inl ⟨(by rw [AH.fl.len];exact Bf),J⟩) (.tmp J (.tmp J .n))) ?_
  intro w1 hS
  have hS:=hS.Cx 56 16
  have hS:=(hS.perm (Ax.perm (.c .h .n))).A5
  have hq:AE.EJ X b o=_:=((AX c1).trans (BG c2))
  refine⟨_,⟨⟨none,0,0⟩,?hv2,?hl2,?hB2⟩,hS⟩
  case hv2=>rw [hq];rfl
  case hl2=>rw [hq];rfl
  case hB2=>rw [hq];rfl
 have c2p:=kz c2
 refine Gs (Gt (Al DQ J) (Gt (AI J A8 .m1 Order.l0 J J) (Gt (BA J J) (Gm J (Bj 35 J J (fun q=>Al DQ J) (Bj 35 J J (fun q=>AI (cF J q) A8 .m1 Order.l0 J J) (Bj 35 J J (fun q=>Cs (cF J q) J) ?_)))))))
 refine Gt (Ba J J (fun h=>by rw [h];rfl)) ?_
 refine Ga J (Gn (.t5 1 3 5 6 31) ?_)
 refine Gc (fun c3=>?_) (fun c3=>?_)
 ·
  refine Gs (Gt (AZ J Bf .m2 (AU.id AH.fl.len AH.fl.one) J) ?_)
  refine AT (AL (AU.id AH.fl.len AH.fl.one) J J J EP J .h) ?_
  refine Ga J (Ga J (Gn (.t3 6 7 8) (Ac (AS (AD ?_)))))
  refine AY J (.cell J .m0 (.inl ⟨(by rw [AH.fl.len];exact Bf),J⟩) (.tmp J (.tmp J .n))) ?_
  intro w1 hS
  have hS:=hS.Cx 56 16
  have hS:=(hS.perm (Ax.perm (.c .h .n))).A5
  have hq:AE.EJ X b o=_:=((AX c1).trans ((AX c2).trans (BG c3)))
  refine⟨_,⟨⟨none,0,0⟩,?hv3,?hl3,?hB3⟩,hS⟩
  case hv3=>rw [hq];rfl
  case hl3=>rw [hq];rfl
  case hB3=>rw [hq];rfl
 have c3p:=kz c3
 have hF:=AE.W6 hw c1 c2
 have hb:=hF.b
 refine Aa ?_
 refine AB (.t4 1 3 5 6) ?_
 refine AV (AA (Gs (Gt (AZ J Bf .m2 (AU.id AH.fl.len AH.fl.one) J) (Gm J (Gt (BF Wk Wd J (.cons Af.l0 J J J (.cons Af.l1 J J J .nil))) ?_)))))
 refine CB J J J (fun b4=>?_)
 refine Ga J (Gn (.t4 1 5 6 9) (Aq (Ag (Gs (Gt (Al DQ J) (Gt (AI J A8 .m2 Order.l0 J J) (Gt (BA J J) ?_)))))))
 refine Ga J (Gn (.t5 1 5 6 9 48) ?_)
 refine Gc (fun c4=>?_) (fun c4=>?_)
 ·
  have c4p:=kz c4
  refine AJ (Gm J (Gt (Al DQ J) (Gt (AI J A8 .m2 Order.l0 J J) ?_)))
  refine Dy Ing.Event.enc 56 16 ?_
  refine BL J jG (.c J (.c J .n)) (.c (.t .h) (.c .h .n)) (Sr _ (⟨X,b,[]⟩:AE) _ o.verb J hF (by omega) (Nat.zero_le _)) (fun w hS=>gl0.pull gm0 hS (.c (.t .h) (.c .h .n))) (fun v5 B hv=>?_)
  obtain⟨y6,rfl,y7,rfl⟩:=hv
  refine AR (AB (.t2 6 9) ?_)
  refine AV (AA (Aq ?_))
  refine BE (N:=11) [0,1,3,7,0,16,48,112,15,511,1023] mix (by kernel_rfl) J ?_
  refine Pf 0 J (AF J) (Pf 1 J (Bb J) (Pf 2 J (Al BB J) (Pf 3 J (AZ J Bf .m0 Af.l0 J) (Pf 4 J (AF J) (Pf 5 J (Bb J) (Pf 6 J (Al CT J) (Pf 7 J (AI J D1 .m0 Af.l2 J J) ?_)))))))
  refine Aj 8 J (by kernel_rfl) ?_
  refine AT (AL (AU.id AH.fl.len AH.fl.one) J J J EP J (.t (.t .h))) ?_
  refine BO J ⟨?_,?_⟩
  · exact(Po J (AI J D1 .m0 Af.l2 J J) J J (Po J (Al CT J) J J (Po J (Bb J) J J (Po J (AF J) J J (Pk (Pk (Pk (Pk As))))))))
  refine Pf 9 J (A0 J) (Pf 10 J (A0 J) ?_)
  refine A2 (by kernel_rfl) ?_
  refine AB (.t3 6 7 8) ?_
  refine AA (Ac ?_)
  refine AY J (.cell J .m2 (.inl ⟨(by rw [AH.fl.len];exact Bf),J⟩) (.tmp J (.tmp J .n))) ?_
  intro w1 hS
  have hS:=(hS.perm (Ax.perm (.c (.t .h) .n))).A5
  have ha:AE.act (⟨X,b,[]⟩:AE) o=_:=(BG c4)
  have hq:AE.EJ X b o=((AE.act (⟨X,b,[]⟩:AE) o).w,(AE.act (⟨X,b,[]⟩:AE) o).out,0):=((AX c1).trans ((AX c2).trans (AX c3)))
  rw [ha] at hq
  refine⟨_,⟨?gq4,?hv4,?hl4,?hB4⟩,hS⟩
  case hB4=>rw [hq];(try rfl)
  case hv4=>rw [hq];(try rfl)
  case hl4=>rw [hq];(try dsimp only);exact y7
 have c4p:=kz c4
 refine Gs (Gt (Al DQ J) (Gt (AI J A8 .m2 Order.l0 J J) (Gt (Ai J J) (Ga J (Gn (.t5 1 5 6 9 56) ?_)))))
 refine Gc (fun c5=>?_) (fun c5=>?_)
 ·
  refine AJ (Gm J ?_)
  refine Dy Ing.Event.enc 56 16 ?_
  refine BL J WB (.c J .n) (.c (.t .h) (.c .h .n)) (Hh _ (⟨X,b,[]⟩:AE) _ J hF.b hF.br (Nat.zero_le _)) (fun w hS=>gl0.pull gm0 hS (.c (.t .h) (.c .h .n))) (fun v9 B hv=>?_)
  obtain⟨y10,rfl,y11,rfl⟩:=hv
  refine AR (AB (.t2 6 9) ?_)
  refine AV (AA (Aq ?_))
  refine BE (N:=11) [0,1,3,7,0,16,48,112,15,511,1023] mix (by kernel_rfl) J ?_
  refine Pf 0 J (AF J) (Pf 1 J (Bb J) (Pf 2 J (Al BB J) (Pf 3 J (AZ J Bf .m0 Af.l0 J) (Pf 4 J (AF J) (Pf 5 J (Bb J) (Pf 6 J (Al CT J) (Pf 7 J (AI J D1 .m0 Af.l2 J J) ?_)))))))
  refine Aj 8 J (by kernel_rfl) ?_
  refine AT (AL (AU.id AH.fl.len AH.fl.one) J J J EP J (.t (.t .h))) ?_
  refine BO J ⟨?_,?_⟩
  · exact(Po J (AI J D1 .m0 Af.l2 J J) J J (Po J (Al CT J) J J (Po J (Bb J) J J (Po J (AF J) J J (Pk (Pk (Pk (Pk As))))))))
  refine Pf 9 J (A0 J) (Pf 10 J (A0 J) ?_)
  refine A2 (by kernel_rfl) ?_
  refine AB (.t3 6 7 8) ?_
  refine AA (Ac ?_)
  refine AY J (.cell J .m2 (.inl ⟨(by rw [AH.fl.len];exact Bf),J⟩) (.tmp J (.tmp J .n))) ?_
  intro w1 hS
  have hS:=(hS.perm (Ax.perm (.c (.t .h) .n))).A5
  have ha:AE.act (⟨X,b,[]⟩:AE) o=_:=((AX c4).trans (BG c5))
  have hq:AE.EJ X b o=((AE.act (⟨X,b,[]⟩:AE) o).w,(AE.act (⟨X,b,[]⟩:AE) o).out,0):=((AX c1).trans ((AX c2).trans (AX c3)))
  rw [ha] at hq
  refine⟨_,⟨?gq5,?hv5,?hl5,?hB5⟩,hS⟩
  case hB5=>rw [hq];(try rfl)
  case hv5=>rw [hq];(try rfl)
  case hl5=>rw [hq];(try dsimp only);exact y11
 have c5p:=kz c5
 refine Gs (Gt (Al DQ J) (Gt (AI J A8 .m2 Order.l0 J J) (Gt (Ai J J) (Ga J (Gn (.t5 1 5 6 9 62) ?_)))))
 refine Gc (fun c6=>?_) (fun c6=>?_)
 ·
  have c6p:=kz c6
  refine AJ (Gm J (Gm J (Gt (Bb J) (Gt (Al BB J) (Gt (AZ J Bf .m0 Af.l0 J) (Gm J ?_))))))
  refine Ak J TX (.c J (.c J (.c J .n))) .n (FU _ _ _) (fun v12 B hv=>?_)
  obtain⟨y13,rfl,y14,rfl⟩:=hv
  refine Dy Ing.Event.enc 56 16 ?_
  refine Ak J dN (.c J (.c J (.c J .n))) (.c (.t (.t .h)) (.c .h (.c .h .n))) (MR _ (⟨X,b,[]⟩:AE) _ [89,111,117,32,104,97,118,101] _ (X.has 1 b) J hF.b (by assumption) (AH.Iw _ _ _) (fun i hi=>AH.GD hi) hF.br (by decide) (Nat.zero_le _)) (fun v17 B hv=>?_)
  obtain⟨y18,rfl,y19,rfl⟩:=hv
  refine AR (AB (.t2 6 9) ?_)
  refine AV (AA (Aq ?_))
  refine BE (N:=11) [0,1,3,7,0,16,48,112,15,511,1023] mix (by kernel_rfl) J ?_
  refine Pf 0 J (AF J) (Pf 1 J (Bb J) (Pf 2 J (Al BB J) (Pf 3 J (AZ J Bf .m0 Af.l0 J) (Pf 4 J (AF J) (Pf 5 J (Bb J) (Pf 6 J (Al CT J) (Pf 7 J (AI J D1 .m0 Af.l2 J J) ?_)))))))
  refine Aj 8 J (by kernel_rfl) ?_
  refine AT (AL (AU.id AH.fl.len AH.fl.one) J J J EP J (.t (.t (.t .h)))) ?_
  refine BO J ⟨?_,?_⟩
  · exact(Po J (AI J D1 .m0 Af.l2 J J) J J (Po J (Al CT J) J J (Po J (Bb J) J J (Po J (AF J) J J (Pk (Pk (Pk (Pk As))))))))
  refine Pf 9 J (A0 J) (Pf 10 J (A0 J) ?_)
  refine A2 (by kernel_rfl) ?_
  refine AB (.t3 6 7 8) ?_
  refine AA (Ac ?_)
  refine AY J (.cell J .m3 (.inl ⟨(by rw [AH.fl.len];exact Bf),J⟩) (.tmp J (.tmp J .n))) ?_
  intro w1 hS
  have hS:=(hS.perm (Ax.perm (.c (.t .h) .n))).A5
  have ha:AE.act (⟨X,b,[]⟩:AE) o=_:=((AX c4).trans ((AX c5).trans (BG c6)))
  have hq:AE.EJ X b o=((AE.act (⟨X,b,[]⟩:AE) o).w,(AE.act (⟨X,b,[]⟩:AE) o).out,0):=((AX c1).trans ((AX c2).trans (AX c3)))
  rw [ha] at hq
  refine⟨_,⟨?gq6,?hv6,?hl6,?hB6⟩,hS⟩
  case hB6=>rw [hq];(try rfl)
  case hv6=>rw [hq];(try rfl)
  case hl6=>rw [hq];(try dsimp only);exact y19
 have c6p:=kz c6
 refine Gs (Gt (Al DQ J) (Gt (AI J A8 .m2 Order.l0 J J) (Gt (Ai J J) (Ga J (Gn (.t4 5 6 9 74) ?_)))))
 refine Gc (fun c7=>?_) (fun c7=>?_)
 ·
  refine AJ (Gm J (Gt (Al Sm J) (Gt (AI J CO .m2 Order.l5 J J) (Gt (BF QW JE J (.cons Ing.Event.l0 J J J (.cons Ing.Event.l3 J J J (.cons Ing.Event.l9 J J J .nil)))) ?_))))
  refine Dy Ing.Event.enc 56 16 ?_
  refine Ak J Pw (.c J (.c J .n)) (.c (.t .h) (.c .h .n)) (CY _ (⟨X,b,[]⟩:AE) _ { AE.GF 7 with text:=o.text } J hF.b (show(-1:Int) < 6 by decide) (Nat.zero_le _)) (fun v21 B hv=>?_)
  obtain⟨y22,rfl,y23,rfl⟩:=hv
  refine AR (AB (.t2 6 9) ?_)
  refine AV (AA (Aq ?_))
  refine BE (N:=11) [0,1,3,7,0,16,48,112,15,511,1023] mix (by kernel_rfl) J ?_
  refine Pf 0 J (AF J) (Pf 1 J (Bb J) (Pf 2 J (Al BB J) (Pf 3 J (AZ J Bf .m0 Af.l0 J) (Pf 4 J (AF J) (Pf 5 J (Bb J) (Pf 6 J (Al CT J) (Pf 7 J (AI J D1 .m0 Af.l2 J J) ?_)))))))
  refine Aj 8 J (by kernel_rfl) ?_
  refine AT (AL (AU.id AH.fl.len AH.fl.one) J J J EP J (.t (.t .h))) ?_
  refine BO J ⟨?_,?_⟩
  · exact(Po J (AI J D1 .m0 Af.l2 J J) J J (Po J (Al CT J) J J (Po J (Bb J) J J (Po J (AF J) J J (Pk (Pk (Pk (Pk As))))))))
  refine Pf 9 J (A0 J) (Pf 10 J (A0 J) ?_)
  refine A2 (by kernel_rfl) ?_
  refine AB (.t3 6 7 8) ?_
  refine AA (Ac ?_)
  refine AY J (.cell J .m2 (.inl ⟨(by rw [AH.fl.len];exact Bf),J⟩) (.tmp J (.tmp J .n))) ?_
  intro w1 hS
  have hS:=(hS.perm (Ax.perm (.c (.t .h) .n))).A5
  have ha:AE.act (⟨X,b,[]⟩:AE) o=_:=((AX c4).trans ((AX c5).trans ((AX c6).trans (BG c7))))
  have hq:AE.EJ X b o=((AE.act (⟨X,b,[]⟩:AE) o).w,(AE.act (⟨X,b,[]⟩:AE) o).out,0):=((AX c1).trans ((AX c2).trans (AX c3)))
  rw [ha] at hq
  refine⟨_,⟨?gq7,?hv7,?hl7,?hB7⟩,hS⟩
  case hB7=>rw [hq];(try rfl)
  case hv7=>rw [hq];(try rfl)
  case hl7=>rw [hq];(try dsimp only);exact y23
 have c7p:=kz c7
 refine Gs (Gt (Al DQ J) (Gt (AI J A8 .m2 Order.l0 J J) (Gt (Ai J J) (Ga J (Gn (.t4 5 6 9 83) ?_)))))
 refine Gc (fun c8=>?_) (fun c8=>?_)
 ·
  refine AJ (Gm J ?_)
  refine Dy Ing.Event.enc 56 16 ?_
  refine Ak J gC (.c J .n) (.c (.t .h) (.c .h .n)) (R2 _ (⟨X,b,[]⟩:AE) _ J hF (Nat.zero_le _)) (fun v25 B hv=>?_)
  obtain⟨y26,rfl,y27,rfl⟩:=hv
  refine AR (AB (.t2 6 9) ?_)
  refine AV (AA (Aq ?_))
  refine BE (N:=11) [0,1,3,7,0,16,48,112,15,511,1023] mix (by kernel_rfl) J ?_
  refine Pf 0 J (AF J) (Pf 1 J (Bb J) (Pf 2 J (Al BB J) (Pf 3 J (AZ J Bf .m0 Af.l0 J) (Pf 4 J (AF J) (Pf 5 J (Bb J) (Pf 6 J (Al CT J) (Pf 7 J (AI J D1 .m0 Af.l2 J J) ?_)))))))
  refine Aj 8 J (by kernel_rfl) ?_
  refine AT (AL (AU.id AH.fl.len AH.fl.one) J J J EP J (.t (.t .h))) ?_
  refine BO J ⟨?_,?_⟩
  · exact(Po J (AI J D1 .m0 Af.l2 J J) J J (Po J (Al CT J) J J (Po J (Bb J) J J (Po J (AF J) J J (Pk (Pk (Pk (Pk As))))))))
  refine Pf 9 J (A0 J) (Pf 10 J (A0 J) ?_)
  refine A2 (by kernel_rfl) ?_
  refine AB (.t3 6 7 8) ?_
  refine AA (Ac ?_)
  refine AY J (.cell J .m2 (.inl ⟨(by rw [AH.fl.len];exact Bf),J⟩) (.tmp J (.tmp J .n))) ?_
  intro w1 hS
  have hS:=(hS.perm (Ax.perm (.c (.t .h) .n))).A5
  have ha:AE.act (⟨X,b,[]⟩:AE) o=_:=((AX c4).trans ((AX c5).trans ((AX c6).trans ((AX c7).trans (BG c8)))))
  have hq:AE.EJ X b o=((AE.act (⟨X,b,[]⟩:AE) o).w,(AE.act (⟨X,b,[]⟩:AE) o).out,0):=((AX c1).trans ((AX c2).trans (AX c3)))
  rw [ha] at hq
  refine⟨_,⟨?gq8,?hv8,?hl8,?hB8⟩,hS⟩
  case hB8=>rw [hq];(try rfl)
  case hv8=>rw [hq];(try rfl)
  case hl8=>rw [hq];(try dsimp only);exact y27
 have c8p:=kz c8
 refine Gs (Gt (Al DQ J) (Gt (AI J A8 .m2 Order.l0 J J) (Gt (Ai J J) (Ga J (Gn (.t4 5 6 9 89) ?_)))))
 refine Gc (fun c9=>?_) (fun c9=>?_)
 ·
  refine AJ (Gm J (Gt (AZ J CI .m2 (AU.id Order.fl.len Order.fl.one) J) ?_))
  refine Dy Ing.Event.enc 56 16 ?_
  refine BL J fa (.c J (.c J .n)) (.c (.t .h) (.c .h .n)) (Qk _ (⟨X,b,[]⟩:AE) _ o J hF hm (Nat.zero_le _)) (fun w hS=>⟨gl1.pull gm1 hS (.c (.t .h) (.c .h .n)),gl2.pull gm2 hS (.c (.t .h) (.c .h .n))⟩) (fun v29 B hv=>?_)
  obtain⟨y30,rfl,y31,rfl⟩:=hv
  refine AR (AB (.t2 6 9) ?_)
  refine AV (AA (Aq ?_))
  refine BE (N:=11) [0,1,3,7,0,16,48,112,15,511,1023] mix (by kernel_rfl) J ?_
  refine Pf 0 J (AF J) (Pf 1 J (Bb J) (Pf 2 J (Al BB J) (Pf 3 J (AZ J Bf .m0 Af.l0 J) (Pf 4 J (AF J) (Pf 5 J (Bb J) (Pf 6 J (Al CT J) (Pf 7 J (AI J D1 .m0 Af.l2 J J) ?_)))))))
  refine Aj 8 J (by kernel_rfl) ?_
  refine AT (AL (AU.id AH.fl.len AH.fl.one) J J J EP J (.t (.t .h))) ?_
  refine BO J ⟨?_,?_⟩
  · exact(Po J (AI J D1 .m0 Af.l2 J J) J J (Po J (Al CT J) J J (Po J (Bb J) J J (Po J (AF J) J J (Pk (Pk (Pk (Pk As))))))))
  refine Pf 9 J (A0 J) (Pf 10 J (A0 J) ?_)
  refine A2 (by kernel_rfl) ?_
  refine AB (.t3 6 7 8) ?_
  refine AA (Ac ?_)
  refine AY J (.cell J .m2 (.inl ⟨(by rw [AH.fl.len];exact Bf),J⟩) (.tmp J (.tmp J .n))) ?_
  intro w1 hS
  have hS:=(hS.perm (Ax.perm (.c (.t .h) .n))).A5
  have ha:AE.act (⟨X,b,[]⟩:AE) o=_:=((AX c4).trans ((AX c5).trans ((AX c6).trans ((AX c7).trans ((AX c8).trans (BG c9))))))
  have hq:AE.EJ X b o=((AE.act (⟨X,b,[]⟩:AE) o).w,(AE.act (⟨X,b,[]⟩:AE) o).out,0):=((AX c1).trans ((AX c2).trans (AX c3)))
  rw [ha] at hq
  refine⟨_,⟨?gq9,?hv9,?hl9,?hB9⟩,hS⟩
  case hB9=>rw [hq];(try rfl)
  case hv9=>rw [hq];(try rfl)
  case hl9=>rw [hq];(try dsimp only);exact y31
 have c9p:=kz c9
 refine Gs (Gt (Al DQ J) (Gt (AI J A8 .m2 Order.l0 J J) (Gt (Ai J J) (Ga J (Gn (.t4 5 6 9 96) ?_)))))
 refine Gc (fun c10=>?_) (fun c10=>?_)
 ·
  refine AJ (Gm J (Gt (AZ J CI .m2 (AU.id Order.fl.len Order.fl.one) J) ?_))
  refine Dy Ing.Event.enc 56 16 ?_
  refine BL J gw (.c J (.c J .n)) (.c (.t .h) (.c .h .n)) (UF _ (⟨X,b,[]⟩:AE) _ o J hF hu (Nat.zero_le _)) (fun w hS=>⟨gl1.pull gm1 hS (.c (.t .h) (.c .h .n)),gl2.pull gm2 hS (.c (.t .h) (.c .h .n))⟩) (fun v33 B hv=>?_)
  obtain⟨y34,rfl,y35,rfl⟩:=hv
  refine AR (AB (.t2 6 9) ?_)
  refine AV (AA (Aq ?_))
  refine BE (N:=11) [0,1,3,7,0,16,48,112,15,511,1023] mix (by kernel_rfl) J ?_
  refine Pf 0 J (AF J) (Pf 1 J (Bb J) (Pf 2 J (Al BB J) (Pf 3 J (AZ J Bf .m0 Af.l0 J) (Pf 4 J (AF J) (Pf 5 J (Bb J) (Pf 6 J (Al CT J) (Pf 7 J (AI J D1 .m0 Af.l2 J J) ?_)))))))
  refine Aj 8 J (by kernel_rfl) ?_
  refine AT (AL (AU.id AH.fl.len AH.fl.one) J J J EP J (.t (.t .h))) ?_
  refine BO J ⟨?_,?_⟩
  · exact(Po J (AI J D1 .m0 Af.l2 J J) J J (Po J (Al CT J) J J (Po J (Bb J) J J (Po J (AF J) J J (Pk (Pk (Pk (Pk As))))))))
  refine Pf 9 J (A0 J) (Pf 10 J (A0 J) ?_)
  refine A2 (by kernel_rfl) ?_
  refine AB (.t3 6 7 8) ?_
  refine AA (Ac ?_)
  refine AY J (.cell J .m2 (.inl ⟨(by rw [AH.fl.len];exact Bf),J⟩) (.tmp J (.tmp J .n))) ?_
  intro w1 hS
  have hS:=(hS.perm (Ax.perm (.c (.t .h) .n))).A5
  have ha:AE.act (⟨X,b,[]⟩:AE) o=_:=((AX c4).trans ((AX c5).trans ((AX c6).trans ((AX c7).trans ((AX c8).trans ((AX c9).trans (BG c10)))))))
  have hq:AE.EJ X b o=((AE.act (⟨X,b,[]⟩:AE) o).w,(AE.act (⟨X,b,[]⟩:AE) o).out,0):=((AX c1).trans ((AX c2).trans (AX c3)))
  rw [ha] at hq
  refine⟨_,⟨?gq10,?hv10,?hl10,?hB10⟩,hS⟩
  case hB10=>rw [hq];(try rfl)
  case hv10=>rw [hq];(try rfl)
  case hl10=>rw [hq];(try dsimp only);exact y35
 have c10p:=kz c10
 refine Gs (Gt (Al DQ J) (Gt (AI J A8 .m2 Order.l0 J J) (Gt (Ai J J) (Gm J (Bj 107 J J (fun q=>Al DQ J) (Bj 107 J J (fun q=>AI (cF J q) A8 .m2 Order.l0 J J) (Bj 107 J J (fun q=>Ai (cF J q) J) ?_)))))))
 refine Gt (Ba J J (fun h=>by rw [h];rfl)) ?_
 refine Gm J (Bj 112 J J (fun q=>Al DQ J) (Bj 112 J J (fun q=>AI (cF J q) A8 .m2 Order.l0 J J) (Bj 112 J J (fun q=>Ai (cF J q) J) ?_)))
 refine Gt (Ba J J (fun h=>by rw [h];rfl)) ?_
 refine Ga J (Gn (.t4 5 6 9 103) ?_)
 refine Gc (fun c11=>?_) (fun c11=>?_)
 ·
  have c11p:=kz c11
  refine AJ (Gm J (Gt (AZ J CI .m2 (AU.id Order.fl.len Order.fl.one) J) ?_))
  refine Dy Ing.Event.enc 56 16 ?_
  refine BL J fV (.c J (.c J .n)) (.c (.t .h) (.c .h .n)) (S6 _ (⟨X,b,[]⟩:AE) _ o J hF (by omega) hu (Nat.zero_le _)) (fun w hS=>⟨gl1.pull gm1 hS (.c (.t .h) (.c .h .n)),gl2.pull gm2 hS (.c (.t .h) (.c .h .n))⟩) (fun v37 B hv=>?_)
  obtain⟨y38,rfl,y39,rfl⟩:=hv
  refine AR (AB (.t2 6 9) ?_)
  refine AV (AA (Aq ?_))
  refine BE (N:=11) [0,1,3,7,0,16,48,112,15,511,1023] mix (by kernel_rfl) J ?_
  refine Pf 0 J (AF J) (Pf 1 J (Bb J) (Pf 2 J (Al BB J) (Pf 3 J (AZ J Bf .m0 Af.l0 J) (Pf 4 J (AF J) (Pf 5 J (Bb J) (Pf 6 J (Al CT J) (Pf 7 J (AI J D1 .m0 Af.l2 J J) ?_)))))))
  refine Aj 8 J (by kernel_rfl) ?_
  refine AT (AL (AU.id AH.fl.len AH.fl.one) J J J EP J (.t (.t .h))) ?_
  refine BO J ⟨?_,?_⟩
  · exact(Po J (AI J D1 .m0 Af.l2 J J) J J (Po J (Al CT J) J J (Po J (Bb J) J J (Po J (AF J) J J (Pk (Pk (Pk (Pk As))))))))
  refine Pf 9 J (A0 J) (Pf 10 J (A0 J) ?_)
  refine A2 (by kernel_rfl) ?_
  refine AB (.t3 6 7 8) ?_
  refine AA (Ac ?_)
  refine AY J (.cell J .m2 (.inl ⟨(by rw [AH.fl.len];exact Bf),J⟩) (.tmp J (.tmp J .n))) ?_
  intro w1 hS
  have hS:=(hS.perm (Ax.perm (.c (.t .h) .n))).A5
  have ha:AE.act (⟨X,b,[]⟩:AE) o=_:=((AX c4).trans ((AX c5).trans ((AX c6).trans ((AX c7).trans ((AX c8).trans ((AX c9).trans ((AX c10).trans (BG c11))))))))
  have hq:AE.EJ X b o=((AE.act (⟨X,b,[]⟩:AE) o).w,(AE.act (⟨X,b,[]⟩:AE) o).out,0):=((AX c1).trans ((AX c2).trans (AX c3)))
  rw [ha] at hq
  refine⟨_,⟨?gq11,?hv11,?hl11,?hB11⟩,hS⟩
  case hB11=>rw [hq];(try rfl)
  case hv11=>rw [hq];(try rfl)
  case hl11=>rw [hq];(try dsimp only);exact y39
 have c11p:=kz c11
 refine AJ (Gm J (Gt (AZ J CI .m2 (AU.id Order.fl.len Order.fl.one) J) ?_))
 refine Dy Ing.Event.enc 56 16 ?_
 refine BL J gJ (.c J (.c J .n)) (.c (.t .h) (.c .h .n)) (TH _ (⟨X,b,[]⟩:AE) _ o J hF (by omega) (Nat.zero_le _)) (fun w hS=>gl0.pull gm0 hS (.c (.t .h) (.c .h .n))) (fun v41 B hv=>?_)
 obtain⟨y42,rfl,y43,rfl⟩:=hv
 refine AR (AB (.t2 6 9) ?_)
 refine AV (AA (Aq ?_))
 refine BE (N:=11) [0,1,3,7,0,16,48,112,15,511,1023] mix (by kernel_rfl) J ?_
 refine Pf 0 J (AF J) (Pf 1 J (Bb J) (Pf 2 J (Al BB J) (Pf 3 J (AZ J Bf .m0 Af.l0 J) (Pf 4 J (AF J) (Pf 5 J (Bb J) (Pf 6 J (Al CT J) (Pf 7 J (AI J D1 .m0 Af.l2 J J) ?_)))))))
 refine Aj 8 J (by kernel_rfl) ?_
 refine AT (AL (AU.id AH.fl.len AH.fl.one) J J J EP J (.t (.t .h))) ?_
 refine BO J ⟨?_,?_⟩
 · exact(Po J (AI J D1 .m0 Af.l2 J J) J J (Po J (Al CT J) J J (Po J (Bb J) J J (Po J (AF J) J J (Pk (Pk (Pk (Pk As))))))))
 refine Pf 9 J (A0 J) (Pf 10 J (A0 J) ?_)
 refine A2 (by kernel_rfl) ?_
 refine AB (.t3 6 7 8) ?_
 refine AA (Ac ?_)
 refine AY J (.cell J .m2 (.inl ⟨(by rw [AH.fl.len];exact Bf),J⟩) (.tmp J (.tmp J .n))) ?_
 intro w1 hS
 have hS:=(hS.perm (Ax.perm (.c (.t .h) .n))).A5
 have ha:AE.act (⟨X,b,[]⟩:AE) o=_:=((AX c4).trans ((AX c5).trans ((AX c6).trans ((AX c7).trans ((AX c8).trans ((AX c9).trans ((AX c10).trans (AX c11))))))))
 have hq:AE.EJ X b o=((AE.act (⟨X,b,[]⟩:AE) o).w,(AE.act (⟨X,b,[]⟩:AE) o).out,0):=((AX c1).trans ((AX c2).trans (AX c3)))
 rw [ha] at hq
 refine⟨_,⟨?gq12,?hv12,?hl12,?hB12⟩,hS⟩
 case hB12=>rw [hq];(try rfl)
 case hv12=>rw [hq];(try rfl)
 case hl12=>rw [hq];(try dsimp only);exact y43
theorem I0 (b:Nat)(V:AN)(ls:Vector BD 4)(ev:List Ing.Event)(k:Int)(n m:Nat)(hk:0≤k∧k < 4)(hF:AG.Fit (A7 V ls ev) n m)(hn:n≤900000)(hm:m≤900000):FO Tryz.prog 67 #[.pointer (some ⟨b,0,none⟩), .pointer (some ⟨b,165+k.toNat * 22,none⟩)] [Ab.box b 101 (AN.enc V),Ab.DP (CQ 9 (AN.Ar V) ls),Ab.own (AN.last V) 56 16 ((ev).flatMap Ing.Event.enc)] (fun w=>(GV 2 GJ w∧2 ∉ Ch [Ab.box b 101 (AN.enc V),Ab.DP (CQ 9 (AN.Ar V) ls),Ab.own (AN.last V) 56 16 ((ev).flatMap Ing.Event.enc)])∧(GV 0 AH.DU w∧0 ∉ Ch [Ab.box b 101 (AN.enc V),Ab.DP (CQ 9 (AN.Ar V) ls),Ab.own (AN.last V) 56 16 ((ev).flatMap Ing.Event.enc)])∧(HP 7 w∧7 ∉ Ch [Ab.box b 101 (AN.enc V),Ab.DP (CQ 9 (AN.Ar V) ls),Ab.own (AN.last V) 56 16 ((ev).flatMap Ing.Event.enc)])∧(HP 8 w∧8 ∉ Ch [Ab.box b 101 (AN.enc V),Ab.DP (CQ 9 (AN.Ar V) ls),Ab.own (AN.last V) 56 16 ((ev).flatMap Ing.Event.enc)])) (fun v B=>∃ V' ls' ev',v = .tuple #[]∧A7 V' ls' ev'=AG.leave (A7 V ls ev) k∧B = [Ab.box b 101 (AN.enc V'),Ab.DP (CQ 9 (AN.Ar V') ls'),Ab.own (AN.last V') 56 16 ((ev').flatMap Ing.Event.enc)]):=by
 intro w hS0 hH
 obtain⟨⟨gl0,gm0⟩,⟨gl1,gm1⟩,⟨gl2,gm2⟩,⟨gl3,gm3⟩⟩:=hH
 have hbe:=Xe hF hk.1 hk.2
 refine Ap _ _ Tryz.func67 J J J (hS0) ?_
 refine Aq (Aq ?_)
 refine BE (N:=18) [0,1,3,7,15,31,63,63,191,447,959,127,2175,6271,16383,32767,65535,131071] mix (by kernel_rfl) J ?_
 refine Pf 0 J (AF J) (Pf 1 J (Bb J) (Pf 2 J (Al Jx J) (Pf 3 J (AI J A8 .m0 ((AN.l1.comp (AU.arr (n:=4) A4.fl hk.1 hk.2)).comp A4.l0) J J) (Pf 4 J (Ai J J) (Pf 5 J (AF J) (NX 6 12 J J J (fun q=>AF J) (NX 7 12 J J J (fun q=>AF J) ?_)))))))
 refine NX 8 12 J J J (fun q=>Bb (Bo J q)) (NX 9 12 J J J (fun q=>Al I9 (Bo J q)) (NX 10 12 J J J (fun q=>AI (Bo J q) A8 .m0 ((AN.l1.comp (AU.arr (n:=4) A4.fl hk.1 hk.2)).comp A4.l1) J J) (NX 11 12 J J J (fun q=>Bb (Bo J q)) (NX 12 12 J J J (fun q=>Al Ea (Bo J q)) (NX 13 12 J J J (fun q=>Al Bx (Bo J q)) ?_)))))
 refine BI 14 J J (by kernel_rfl) (UC (t:=12) J J (fun q=>by have q1:=q;(try simp at q1);exact F6 (AQ DI (Bo rfl q) (Bo rfl q) (by first | omega | exact hk.1 | exact hk.2) (by first | omega | exact hk.1 | exact hk.2)))) ?_
 refine NX 15 12 J J J (fun q=>Al JA (Bo J q)) ?_
 refine BI 16 J J (by kernel_rfl) (UC (t:=12) J J (fun q=>by have q1:=q;(try simp at q1);exact F6 (AI (Bo rfl q) D3 .m0 (((AN.l0.comp AH.l2).comp (AU.ar (n:=6) Am.fl (by first | omega | exact hk))).comp Am.l1) rfl rfl))) ?_
 refine Pf 17 J (BQ J J (fun h=>h)) ?_
 refine A2 (by kernel_rfl) ?_
 refine AB (.t3 0 1 24) ?_
 refine AA ?_
 refine Gc (fun c1=>?_) (fun c1=>?_)
 ·
  have c1p:=kz c1
  have hdl:=AE.OS V.w (V.Ar.at k).Aw AG.EL
  have hds:=AE.K0 (b:=(V.Ar.at k).Aw) (o:=AG.EL) hF.F8 AG.Nb
  refine Aq ?_
  refine BE (N:=18) [0,1,3,7,0,16,48,112,0,511,1023,2047,2047,2047,0,20479,57343,131071] mix (by kernel_rfl) J ?_
  refine Pf 0 J (AF J) (Pf 1 J (Bb J) (Pf 2 J (Al Ea J) (Pf 3 J (AZ J Bf .m0 AN.l0 J) (Pf 4 J (AF J) (Pf 5 J (Bb J) (Pf 6 J (Al I9 J) (Pf 7 J (AI J A8 .m0 ((AN.l1.comp (AU.arr (n:=4) A4.fl hk.1 hk.2)).comp A4.l1) J J) ?_)))))))
  refine Pf 8 J (BF Td Mm J (.cons Order.l0 J J J .nil)) ?_
  refine KU 9 14 J J (by kernel_rfl) ?_ ?_
  ·
   refine BL J cJ (.c J (.c J (.c J .n))) .n (G3 V.w (V.Ar.at k).Aw AG.EL hF.F8.Hb (Nat.zero_le _) (Nat.zero_le _)) (fun w hS=>⟨gl1.pull gm1 hS .n,gl2.pull gm2 hS .n,gl3.pull gm3 hS .n⟩) (fun v1 B hv=>?_)
   obtain⟨y2,rfl,y3,rfl⟩:=hv
   refine Bu J ⟨?_,?_⟩
   · exact(Pk (Pk (Pk (Pk (Pk (Pk (Pk (Pk (Pk As)))))))))
   refine Pf 10 J (AF J) (Pf 11 J (AM J J) (Pf 12 J (AM J J) (Pf 13 J (AM J J) ?_)))
   refine Aj 14 J (by kernel_rfl) ?_
   refine BJ J N8 J (fun b1=>?_)
   refine Bu J ⟨?_,?_⟩
   · exact(Po J (AM J J) J J (Po J (AM J J) J J (Po J (AM J J) J J (Po J (AF J) J J (Po J (BF Td Mm J (.cons Order.l0 J J J .nil)) J J (Po J (AI J A8 .m2 ((AN.l1.comp (AU.arr (n:=4) A4.fl hk.1 hk.2)).comp A4.l1) J J) J J (Po J (Al I9 J) J J (Po J (Bb J) J J (Po J (AF J) J J (Po J (AZ J Bf .m2 AN.l0 J) J J (Po J (Al Ea J) J J (Po J (Bb J) J J (Po J (AF J) J J As)))))))))))))
   refine Aj 15 J (by kernel_rfl) ?_
   refine AT (AL (AU.id AH.fl.len AH.fl.one) J J J EP J .h) ?_
   refine BO J ⟨?_,?_⟩
   · exact(Po J (AM J J) J J (Po J (AM J J) J J (Pk (Pk (Pk (Pk (Pk (Pk (Pk (Pk (Pk (Pk (Pk As)))))))))))))
   refine Pf 16 J (A0 J) (Pf 17 J (A0 J) ?_)
   refine A2 (by kernel_rfl) ?_
   refine AB (.t4 0 1 4 5) ?_
   refine AA (Gs (Gm J (Gt (AZ J Bf .m0 (AU.id AH.fl.len AH.fl.one) J) (Gt (Bb J) (Gt (Al Ea J) ?_)))))
   refine AT (AL AN.l0 J J J EP J (.t (.t .h))) ?_
   refine Gn (.t3 0 1 5) (Aq ?_)
   refine Ep (.c (.t (.t .h)) (.c (.t (.t .h)) .n)) ?_
   refine Fj (k:=k) hk.1 hk.2 (fun sv sl hsv hlv hln=>?_)
   refine AJ (Gm J (Gt (BF Xc Xx J .nil) (Gt (Bb J) ?_)))
   refine AT (AL (AU.A3 { V with w:=(AE.EJ V.w (V.Ar.at k).Aw AG.EL).1 } hk.1 hk.2) J J J U8 J (.t (.t (.t .h)))) ?_
   refine Gn (.t3 0 1 5) ?_
   refine E2 A6 9 1 ?_
   refine E2 A6 9 1 ?_
   refine E2 A6 9 1 ?_
   refine Ep (.c (.t (.t .h)) (.c (.t .h) (.c .h (.c (.t (.t (.t .h))) (.c (.t (.t (.t .h))) .n))))) ?_
   refine Hp hk.1 hk.2 (by rfl) (by rfl) (by rfl) ?_
   refine AJ (Gm J (Gm J ?_))
   refine BL J XX (.c J (.c J .n)) (.c .h (.c .h (.c (.t (.t (.t (.t (.t .h))))) (.c (.t (.t (.t (.t .h)))) .n)))) (FJ _ (AN.A3 { V with w:=(AE.EJ V.w (V.Ar.at k).Aw AG.EL).1 } k default) (ls.put k ⟨[],[],[]⟩) ev _ (AE.EJ V.w (V.Ar.at k).Aw AG.EL).2.1 n (by assumption) (HM (((hF.land hds.1).free hk.1 hk.2) |> fun h=>by rw [← QA,← JI hk.1 hk.2] at h;exact h)) (by omega) (Nat.le_trans hF.last (by omega)) (fun e he c _=>hds.2 e he)) (fun w hS=>⟨gl0.pull gm0 hS (.c .h (.c .h (.c (.t (.t (.t (.t (.t .h))))) (.c (.t (.t (.t (.t .h)))) .n)))),gl1.pull gm1 hS (.c .h (.c .h (.c (.t (.t (.t (.t (.t .h))))) (.c (.t (.t (.t (.t .h)))) .n))))⟩) (fun v8 B hv=>?_)
   obtain⟨y9,y10,y11,rfl,y12,rfl⟩:=hv
   refine Gn (.t1 1) ?_
   refine Fj (k:=k) hk.1 hk.2 (fun sv sl hsv hlv hln=>?_)
   refine AJ (Gm J (Gt (BF Xc Xx J .nil) (Gt (Bb J) ?_)))
   refine AT (AL (AU.A3 y9 hk.1 hk.2) J J J U8 J (.t (.t (.t .h)))) ?_
   refine AR ?_
   refine Bs J .n ?_
   intro w1 hS
   have hS:=hS.Cx 9 1
   have hS:=hS.Cx 9 1
   have hS:=hS.Cx 9 1
   have hS:=(hS.perm (Ax.perm (.c (.t (.t .h)) (.c (.t .h) (.c .h (.c (.t (.t (.t .h))) (.c (.t (.t (.t .h))) (.c (.t (.t (.t .h))) .n)))))))).A5
   have hS:=St.close' (s:=default) (qs:= []) (ws:= []) (ts:= []) hk.1 hk.2 rfl rfl rfl hS
   refine⟨_,⟨_,_,_,J,?ga1,J⟩,hS⟩
   case ga1=>exact Rz hk.1 hk.2 c1 y12
  ·
   refine BJ J N8 J (fun b2=>?_)
   refine Bu J ⟨?_,?_⟩
   · exact(Po J (BF Td Mm J (.cons Order.l0 J J J .nil)) J J (Po J (AI J A8 .m1 ((AN.l1.comp (AU.arr (n:=4) A4.fl hk.1 hk.2)).comp A4.l1) J J) J J (Po J (Al I9 J) J J (Po J (Bb J) J J (Po J (AF J) J J (Po J (AZ J Bf .m1 AN.l0 J) J J (Po J (Al Ea J) J J (Po J (Bb J) J J (Po J (AF J) J J As)))))))))
   refine Aj 9 J (by kernel_rfl) ?_
   refine BL J cJ (.c J (.c J (.c J .n))) .n (G3 V.w (V.Ar.at k).Aw AG.EL hF.F8.Hb (Nat.zero_le _) (Nat.zero_le _)) (fun w hS=>⟨gl1.pull gm1 hS .n,gl2.pull gm2 hS .n,gl3.pull gm3 hS .n⟩) (fun v16 B hv=>?_)
   obtain⟨y17,rfl,y18,rfl⟩:=hv
   refine Bu J ⟨?_,?_⟩
   · exact(Pk (Pk (Pk (Pk (Pk (Pk (Pk (Pk (Pk As)))))))))
   refine Pf 10 J (AF J) (Pf 11 J (AM J J) (Pf 12 J (AM J J) (Pf 13 J (AM J J) ?_)))
   refine Aj 15 J (by kernel_rfl) ?_
   refine AT (AL (AU.id AH.fl.len AH.fl.one) J J J EP J (.t .h)) ?_
   refine BO J ⟨?_,?_⟩
   · exact(Po J (AM J J) J J (Po J (AM J J) J J (Pk (Pk (Pk (Pk (Pk (Pk (Pk (Pk (Pk (Pk (Pk As)))))))))))))
   refine Pf 16 J (A0 J) (Pf 17 J (A0 J) ?_)
   refine A2 (by kernel_rfl) ?_
   refine AB (.t4 0 1 4 5) ?_
   refine AA (Gs (Gm J (Gt (AZ J Bf .m1 (AU.id AH.fl.len AH.fl.one) J) (Gt (Bb J) (Gt (Al Ea J) ?_)))))
   refine AT (AL AN.l0 J J J EP J (.t (.t .h))) ?_
   refine Gn (.t3 0 1 5) (Aq ?_)
   refine Ep (.c (.t (.t .h)) (.c (.t (.t .h)) .n)) ?_
   refine Fj (k:=k) hk.1 hk.2 (fun sv sl hsv hlv hln=>?_)
   refine AJ (Gm J (Gt (BF Xc Xx J .nil) (Gt (Bb J) ?_)))
   refine AT (AL (AU.A3 { V with w:=(AE.EJ V.w (V.Ar.at k).Aw AG.EL).1 } hk.1 hk.2) J J J U8 J (.t (.t (.t .h)))) ?_
   refine Gn (.t3 0 1 5) ?_
   refine E2 A6 9 1 ?_
   refine E2 A6 9 1 ?_
   refine E2 A6 9 1 ?_
   refine Ep (.c (.t (.t .h)) (.c (.t .h) (.c .h (.c (.t (.t (.t .h))) (.c (.t (.t (.t .h))) .n))))) ?_
   refine Hp hk.1 hk.2 (by rfl) (by rfl) (by rfl) ?_
   refine AJ (Gm J (Gm J ?_))
   refine BL J XX (.c J (.c J .n)) (.c .h (.c .h (.c (.t (.t (.t (.t (.t .h))))) (.c (.t (.t (.t .h))) .n)))) (FJ _ (AN.A3 { V with w:=(AE.EJ V.w (V.Ar.at k).Aw AG.EL).1 } k default) (ls.put k ⟨[],[],[]⟩) ev _ (AE.EJ V.w (V.Ar.at k).Aw AG.EL).2.1 n (by assumption) (HM (((hF.land hds.1).free hk.1 hk.2) |> fun h=>by rw [← QA,← JI hk.1 hk.2] at h;exact h)) (by omega) (Nat.le_trans hF.last (by omega)) (fun e he c _=>hds.2 e he)) (fun w hS=>⟨gl0.pull gm0 hS (.c .h (.c .h (.c (.t (.t (.t (.t (.t .h))))) (.c (.t (.t (.t .h))) .n)))),gl1.pull gm1 hS (.c .h (.c .h (.c (.t (.t (.t (.t (.t .h))))) (.c (.t (.t (.t .h))) .n))))⟩) (fun v23 B hv=>?_)
   obtain⟨y24,y25,y26,rfl,y27,rfl⟩:=hv
   refine Gn (.t1 1) ?_
   refine Fj (k:=k) hk.1 hk.2 (fun sv sl hsv hlv hln=>?_)
   refine AJ (Gm J (Gt (BF Xc Xx J .nil) (Gt (Bb J) ?_)))
   refine AT (AL (AU.A3 y24 hk.1 hk.2) J J J U8 J (.t (.t (.t .h)))) ?_
   refine AR ?_
   refine Bs J .n ?_
   intro w1 hS
   have hS:=hS.Cx 9 1
   have hS:=hS.Cx 9 1
   have hS:=hS.Cx 9 1
   have hS:=(hS.perm (Ax.perm (.c (.t (.t .h)) (.c (.t .h) (.c .h (.c (.t (.t (.t .h))) (.c (.t (.t (.t .h))) (.c (.t (.t (.t .h))) .n)))))))).A5
   have hS:=St.close' (s:=default) (qs:= []) (ws:= []) (ts:= []) hk.1 hk.2 rfl rfl rfl hS
   refine⟨_,⟨_,_,_,J,?ga2,J⟩,hS⟩
   case ga2=>exact Rz hk.1 hk.2 c1 y27
 refine Aa ?_
 refine AB (.t1 1) ?_
 refine AA ?_
 refine Fj (k:=k) hk.1 hk.2 (fun sv sl hsv hlv hln=>?_)
 refine AJ (Gm J (Gt (BF Xc Xx J .nil) (Gt (Bb J) ?_)))
 refine AT (AL (AU.A3 V hk.1 hk.2) J J J U8 J (.t (.t (.t .h)))) ?_
 refine AR ?_
 refine Bs J .n ?_
 intro w1 hS
 have hS:=hS.Cx 9 1
 have hS:=hS.Cx 9 1
 have hS:=hS.Cx 9 1
 have hS:=(hS.perm (Ax.perm (.c (.t (.t .h)) (.c (.t .h) (.c .h (.c (.t (.t (.t .h))) (.c (.t (.t (.t .h))) (.c (.t (.t (.t .h))) .n)))))))).A5
 have hS:=St.close' (s:=default) (qs:= []) (ws:= []) (ts:= []) hk.1 hk.2 rfl rfl rfl hS
 refine⟨_,⟨_,_,_,J,?ga3,J⟩,hS⟩
 case ga3=>exact Wf hk.1 hk.2 c1
theorem Qq (b:Nat)(V:AN)(ls:Vector BD 4)(ev:List Ing.Event)(k:Int)(u:Ad)(n m:Nat)(hk:0≤k∧k < 4)(hF:AG.Fit (A7 V ls ev) n m)(hn:n≤900000)(hm:m≤900000)(hu:u.length≤1000):FO Tryz.prog 95 #[.pointer (some ⟨b,0,none⟩), .pointer (some ⟨b,165+k.toNat * 22,none⟩),BW u] [Ab.box b 101 (AN.enc V),Ab.DP (CQ 9 (AN.Ar V) ls),Ab.own (AN.last V) 56 16 ((ev).flatMap Ing.Event.enc)] (fun w=>(GV 2 GJ w∧2 ∉ Ch [Ab.box b 101 (AN.enc V),Ab.DP (CQ 9 (AN.Ar V) ls),Ab.own (AN.last V) 56 16 ((ev).flatMap Ing.Event.enc)])∧(GV 0 AH.DU w∧0 ∉ Ch [Ab.box b 101 (AN.enc V),Ab.DP (CQ 9 (AN.Ar V) ls),Ab.own (AN.last V) 56 16 ((ev).flatMap Ing.Event.enc)])∧(HP 7 w∧7 ∉ Ch [Ab.box b 101 (AN.enc V),Ab.DP (CQ 9 (AN.Ar V) ls),Ab.own (AN.last V) 56 16 ((ev).flatMap Ing.Event.enc)])∧(HP 8 w∧8 ∉ Ch [Ab.box b 101 (AN.enc V),Ab.DP (CQ 9 (AN.Ar V) ls),Ab.own (AN.last V) 56 16 ((ev).flatMap Ing.Event.enc)])) (fun v B=>∃ V' ls' ev',v = .tuple #[]∧A7 V' ls' ev'=AG.order (A7 V ls ev) k u∧B = [Ab.box b 101 (AN.enc V'),Ab.DP (CQ 9 (AN.Ar V') ls'),Ab.own (AN.last V') 56 16 ((ev').flatMap Ing.Event.enc)]):=by
 intro w hS0 hH
 obtain⟨⟨gl0,gm0⟩,⟨gl1,gm1⟩,⟨gl2,gm2⟩,⟨gl3,gm3⟩⟩:=hH
 have hps:=Words.Kf u
 have hdl:=AE.OS V.w (V.Ar.at k).Aw (Words.parse u).1
 have hds:=AE.K0 (b:=(V.Ar.at k).Aw) (o:=(Words.parse u).1) hF.F8 (by have:=hps.2.2;omega)
 have htn:=HM hF
 refine Ap _ _ Tryz.func95 J J J (hS0) ?_
 refine Gs (Gm J ?_)
 refine BC J gF (.c J .n) (fun w hS=>M6 u (by omega) w (gl1.stM gm1 hS) (gl2.stM gm2 hS) (gl3.stM gm3 hS)) ?_
 refine Gm J (Gt (AM J J) (Gt (AM J J) ?_))
 refine BJ J Mm J (fun b1=>?_)
 refine AT (AL (AU.id Order.fl.len Order.fl.one) J J J EK J .h) ?_
 refine Ga J (Gn (.t4 0 1 6 7) (CL (Gm J (Gt (Cm J J) (Gn (.t4 0 1 6 17) ?_)))))
 refine Gc (fun c1=>?_) (fun c1=>?_)
 ·
  have c1p:=kz c1
  refine Gs (Gm J (Gm J ?_))
  refine Ak J VN (.c J (.c J (.c J .n))) (.c (.t .h) (.c (.t .h) (.c (.t .h) .n))) (EZ _ V ls ev k _ hk (Nat.le_trans (htn k hk.1 hk.2) (by omega))) (fun v1 B hv=>?_)
  obtain⟨y2,y3,y4,rfl,y5,rfl⟩:=hv
  refine Gn (.nil _) (Ac (AD ?_))
  refine AY J .n ?_
  intro w1 hS
  have hS:=(hS.perm (Ax.perm (.c .h (.c .h (.c .h .n))))).A5
  refine⟨_,⟨y2,y3,y4,J,?ga1,J⟩,hS⟩
  case ga1=>exact y5.trans (if_pos c1).symm
 have c1p:=kz c1
 refine Aa ?_
 refine AB (.t3 0 1 6) ?_
 refine AA (CL (Gt (Al DQ J) (Gt (AI J A8 .m0 Order.l0 J J) (Gt (Ai J J) (Gn (.t4 0 1 6 23) ?_)))))
 refine Gc (fun c2=>?_) (fun c2=>?_)
 ·
  refine Gs (Gm J (Gm J ?_))
  refine BL J eh (.c J (.c J .n)) (.c (.t .h) (.c (.t .h) (.c (.t .h) .n))) (I0 _ V ls ev k n m hk hF hn hm) (fun w hS=>⟨gl0.pull gm0 hS (.c (.t .h) (.c (.t .h) (.c (.t .h) .n))),gl1.pull gm1 hS (.c (.t .h) (.c (.t .h) (.c (.t .h) .n))),gl2.pull gm2 hS (.c (.t .h) (.c (.t .h) (.c (.t .h) .n))),gl3.pull gm3 hS (.c (.t .h) (.c (.t .h) (.c (.t .h) .n)))⟩) (fun v6 B hv=>?_)
  obtain⟨y7,y8,y9,rfl,y10,rfl⟩:=hv
  refine Gn (.nil _) (Ac (AD ?_))
  refine AY J .n ?_
  intro w1 hS
  have hS:=(hS.perm (Ax.perm (.c .h (.c .h (.c .h .n))))).A5
  refine⟨_,⟨y7,y8,y9,J,?ga2,J⟩,hS⟩
  case ga2=>exact y10.trans ((AX c1).trans (BG c2)).symm
 have c2p:=kz c2
 refine Aa ?_
 refine AB (.t3 0 1 6) ?_
 refine AA (Aq ?_)
 refine BE (N:=18) [0,1,3,7,0,16,48,112,0,511,1023,2047,2047,2047,0,20479,57343,131071] mix (by kernel_rfl) J ?_
 refine Pf 0 J (AF J) (Pf 1 J (Bb J) (Pf 2 J (Al Ea J) (Pf 3 J (AZ J Bf .m1 AN.l0 J) (Pf 4 J (AF J) (Pf 5 J (Bb J) (Pf 6 J (Al I9 J) (Pf 7 J (AI J A8 .m1 ((AN.l1.comp (AU.arr (n:=4) A4.fl hk.1 hk.2)).comp A4.l1) J J) ?_)))))))
 refine Pf 8 J (AZ J CI .m0 (AU.id Order.fl.len Order.fl.one) J) ?_
 refine KU 9 14 J J (by kernel_rfl) ?_ ?_
 ·
  refine BL J cJ (.c J (.c J (.c J .n))) .n (G3 V.w (V.Ar.at k).Aw (Words.parse u).1 hF.F8.Hb (by have:=hps.2.1;omega) (by have:=hps.1;omega)) (fun w hS=>⟨gl1.pull gm1 hS .n,gl2.pull gm2 hS .n,gl3.pull gm3 hS .n⟩) (fun v11 B hv=>?_)
  obtain⟨y12,rfl,y13,rfl⟩:=hv
  refine Bu J ⟨?_,?_⟩
  · exact(Pk (Pk (Pk (Pk (Pk (Pk (Pk (Pk (Pk As)))))))))
  refine Pf 10 J (AF J) (Pf 11 J (AM J J) (Pf 12 J (AM J J) (Pf 13 J (AM J J) ?_)))
  refine Aj 14 J (by kernel_rfl) ?_
  refine BJ J N8 J (fun b2=>?_)
  refine Bu J ⟨?_,?_⟩
  · exact(Po J (AM J J) J J (Po J (AM J J) J J (Po J (AM J J) J J (Po J (AF J) J J (Po J (AZ J CI .m2 (AU.id Order.fl.len Order.fl.one) J) J J (Po J (AI J A8 .m3 ((AN.l1.comp (AU.arr (n:=4) A4.fl hk.1 hk.2)).comp A4.l1) J J) J J (Po J (Al I9 J) J J (Po J (Bb J) J J (Po J (AF J) J J (Po J (AZ J Bf .m3 AN.l0 J) J J (Po J (Al Ea J) J J (Po J (Bb J) J J (Po J (AF J) J J As)))))))))))))
  refine Aj 15 J (by kernel_rfl) ?_
  refine AT (AL (AU.id AH.fl.len AH.fl.one) J J J EP J .h) ?_
  refine BO J ⟨?_,?_⟩
  · exact(Po J (AM J J) J J (Po J (AM J J) J J (Pk (Pk (Pk (Pk (Pk (Pk (Pk (Pk (Pk (Pk (Pk As)))))))))))))
  refine Pf 16 J (A0 J) (Pf 17 J (A0 J) ?_)
  refine A2 (by kernel_rfl) ?_
  refine AB (.t3 0 8 9) ?_
  refine AA (Gs (Gm J (Gt (AZ J Bf .m0 (AU.id AH.fl.len AH.fl.one) J) (Gt (Bb J) (Gt (Al Ea J) ?_)))))
  refine AT (AL AN.l0 J J J EP J (.t (.t (.t .h)))) ?_
  refine Gn (.t2 0 9) (AJ (Gm J (Gm J ?_)))
  refine BL J XX (.c J (.c J .n)) (.c (.t (.t (.t .h))) (.c (.t (.t (.t .h))) (.c (.t (.t (.t .h))) (.c (.t .h) .n)))) (FJ _ { V with w:=(AE.EJ V.w (V.Ar.at k).Aw (Words.parse u).1).1 } ls ev _ (AE.EJ V.w (V.Ar.at k).Aw (Words.parse u).1).2.1 n (by assumption) htn (by omega) (Nat.le_trans hF.last (by omega)) (fun e he c _=>hds.2 e he)) (fun w hS=>⟨gl0.pull gm0 hS (.c (.t (.t (.t .h))) (.c (.t (.t (.t .h))) (.c (.t (.t (.t .h))) (.c (.t .h) .n)))),gl1.pull gm1 hS (.c (.t (.t (.t .h))) (.c (.t (.t (.t .h))) (.c (.t (.t (.t .h))) (.c (.t .h) .n))))⟩) (fun v15 B hv=>?_)
  obtain⟨y16,y17,y18,rfl,y19,rfl⟩:=hv
  refine AR ?_
  refine Bs J .n ?_
  intro w1 hS
  have hS:=(hS.perm (Ax.perm (.c .h (.c .h (.c .h .n))))).A5
  refine⟨_,⟨y16,y17,y18,J,?ga3,J⟩,hS⟩
  case ga3=>exact Wz hk.1 hk.2 c1 c2 y19
 ·
  refine BJ J N8 J (fun b3=>?_)
  refine Bu J ⟨?_,?_⟩
  · exact(Po J (AZ J CI .m1 (AU.id Order.fl.len Order.fl.one) J) J J (Po J (AI J A8 .m2 ((AN.l1.comp (AU.arr (n:=4) A4.fl hk.1 hk.2)).comp A4.l1) J J) J J (Po J (Al I9 J) J J (Po J (Bb J) J J (Po J (AF J) J J (Po J (AZ J Bf .m2 AN.l0 J) J J (Po J (Al Ea J) J J (Po J (Bb J) J J (Po J (AF J) J J As)))))))))
  refine Aj 9 J (by kernel_rfl) ?_
  refine BL J cJ (.c J (.c J (.c J .n))) .n (G3 V.w (V.Ar.at k).Aw (Words.parse u).1 hF.F8.Hb (by have:=hps.2.1;omega) (by have:=hps.1;omega)) (fun w hS=>⟨gl1.pull gm1 hS .n,gl2.pull gm2 hS .n,gl3.pull gm3 hS .n⟩) (fun v20 B hv=>?_)
  obtain⟨y21,rfl,y22,rfl⟩:=hv
  refine Bu J ⟨?_,?_⟩
  · exact(Pk (Pk (Pk (Pk (Pk (Pk (Pk (Pk (Pk As)))))))))
  refine Pf 10 J (AF J) (Pf 11 J (AM J J) (Pf 12 J (AM J J) (Pf 13 J (AM J J) ?_)))
  refine Aj 15 J (by kernel_rfl) ?_
  refine AT (AL (AU.id AH.fl.len AH.fl.one) J J J EP J (.t .h)) ?_
  refine BO J ⟨?_,?_⟩
  · exact(Po J (AM J J) J J (Po J (AM J J) J J (Pk (Pk (Pk (Pk (Pk (Pk (Pk (Pk (Pk (Pk (Pk As)))))))))))))
  refine Pf 16 J (A0 J) (Pf 17 J (A0 J) ?_)
  refine A2 (by kernel_rfl) ?_
  refine AB (.t3 0 8 9) ?_
  refine AA (Gs (Gm J (Gt (AZ J Bf .m1 (AU.id AH.fl.len AH.fl.one) J) (Gt (Bb J) (Gt (Al Ea J) ?_)))))
  refine AT (AL AN.l0 J J J EP J (.t (.t (.t .h)))) ?_
  refine Gn (.t2 0 9) (AJ (Gm J (Gm J ?_)))
  refine BL J XX (.c J (.c J .n)) (.c (.t (.t (.t .h))) (.c (.t (.t (.t .h))) (.c (.t (.t (.t .h))) (.c .h .n)))) (FJ _ { V with w:=(AE.EJ V.w (V.Ar.at k).Aw (Words.parse u).1).1 } ls ev _ (AE.EJ V.w (V.Ar.at k).Aw (Words.parse u).1).2.1 n (by assumption) htn (by omega) (Nat.le_trans hF.last (by omega)) (fun e he c _=>hds.2 e he)) (fun w hS=>⟨gl0.pull gm0 hS (.c (.t (.t (.t .h))) (.c (.t (.t (.t .h))) (.c (.t (.t (.t .h))) (.c .h .n)))),gl1.pull gm1 hS (.c (.t (.t (.t .h))) (.c (.t (.t (.t .h))) (.c (.t (.t (.t .h))) (.c .h .n))))⟩) (fun v24 B hv=>?_)
  obtain⟨y25,y26,y27,rfl,y28,rfl⟩:=hv
  refine AR ?_
  refine Bs J .n ?_
  intro w1 hS
  have hS:=(hS.perm (Ax.perm (.c .h (.c .h (.c .h .n))))).A5
  refine⟨_,⟨y25,y26,y27,J,?ga4,J⟩,hS⟩
  case ga4=>exact Wz hk.1 hk.2 c1 c2 y28
theorem SV (b:Nat)(V:AN)(ls:Vector BD 4)(ev:List Ing.Event)(k:Int)(n m:Nat)(hk:0≤k∧k < 4)(hF:AG.Fit (A7 V ls ev) n m)(hn:n≤900000)(hm:m≤900000):FO Tryz.prog 77 #[.pointer (some ⟨b,0,none⟩), .pointer (some ⟨b,165+k.toNat * 22,none⟩)] [Ab.box b 101 (AN.enc V),Ab.DP (CQ 9 (AN.Ar V) ls),Ab.own (AN.last V) 56 16 ((ev).flatMap Ing.Event.enc)] (fun w=>(GV 2 GJ w∧2 ∉ Ch [Ab.box b 101 (AN.enc V),Ab.DP (CQ 9 (AN.Ar V) ls),Ab.own (AN.last V) 56 16 ((ev).flatMap Ing.Event.enc)])∧(GV 0 AH.DU w∧0 ∉ Ch [Ab.box b 101 (AN.enc V),Ab.DP (CQ 9 (AN.Ar V) ls),Ab.own (AN.last V) 56 16 ((ev).flatMap Ing.Event.enc)])∧(HP 7 w∧7 ∉ Ch [Ab.box b 101 (AN.enc V),Ab.DP (CQ 9 (AN.Ar V) ls),Ab.own (AN.last V) 56 16 ((ev).flatMap Ing.Event.enc)])∧(HP 8 w∧8 ∉ Ch [Ab.box b 101 (AN.enc V),Ab.DP (CQ 9 (AN.Ar V) ls),Ab.own (AN.last V) 56 16 ((ev).flatMap Ing.Event.enc)])) (fun v B=>∃ V' ls' ev',v = .tuple #[]∧A7 V' ls' ev'=AG.Dz (A7 V ls ev) k∧B = [Ab.box b 101 (AN.enc V'),Ab.DP (CQ 9 (AN.Ar V') ls'),Ab.own (AN.last V') 56 16 ((ev').flatMap Ing.Event.enc)]):=by
 intro w hS0 hH
 obtain⟨⟨gl0,gm0⟩,⟨gl1,gm1⟩,⟨gl2,gm2⟩,⟨gl3,gm3⟩⟩:=hH
 refine Ap _ _ Tryz.func77 J J J (hS0) ?_
 refine CL (Gm J (Gt (Bb J) (Gt (Al Jx J) (Gt (AI J A8 .m0 ((AN.l1.comp (AU.arr (n:=4) A4.fl hk.1 hk.2)).comp A4.l0) J J) (Gt (Ai J J) (Gn (.t3 0 1 11) ?_))))))
 refine Gc (fun c1=>?_) (fun c1=>?_)
 ·
  refine Ac (AD ?_)
  refine AY J .n ?_
  intro w1 hS
  have hS:=(hS.perm (Ax.perm (.c .h (.c .h (.c .h .n))))).A5
  exact⟨_,⟨V,ls,ev,J,YM hk.1 hk.2 c1,J⟩,hS⟩
 have c1p:=kz c1
 refine Aa ?_
 refine AB (.t2 0 1) ?_
 refine AA (Gs (Ga J (Gn (.t2 0 1) (Gs (Ga J (Gn (.t2 0 1) (Aq ?_)))))))
 refine Aq ?_
 refine Fj (k:=k) hk.1 hk.2 (fun sv sl hsv hlv hln=>?_)
 refine AJ (Gm J (Gm J (Gt (Bb J) (Gt (Al Na J) (Gt (AZ J Kq .m3 ((AU.A3 V hk.1 hk.2).comp A4.l3) J) ?_)))))
 refine BL J jM (.c J .n) .n (PB _ _ (by have h:=(YU hF hk.1 hk.2).1;rw [hlv] at h;omega)) (fun w hS=>⟨(Kn.own .m0) w hS,(Uh.own .m0) w hS⟩) (fun v1 B hv=>?_)
 rcases hv with ⟨y2,rfl,rfl⟩ | ⟨y3,y4,y5,y6,rfl,y7,rfl⟩
 ·
  refine Gm J (Gt (AM J J) (Gt (AM J J) (Gt (AM J J) (Gt (Bb J) (Gt (Al Na J) ?_)))))
  refine AT (AL ((AU.A3 V hk.1 hk.2).comp A4.l3) J J J Pc J (.t (.t (.t .h)))) ?_
  refine Ga J (Ga J (Gn (.t4 0 1 4 5) (Gs (Gm J (Gt (BZ J) (Gn (.t4 0 1 4 25) ?_))))))
  refine HW J J ?_
  refine Ac (AD ?_)
  refine AY J .n ?_
  intro w1 hS
  have hS:=(hS.perm (Ax.perm (.c .h (.c .h (.c .h (.c .h (.c .h (.c .h .n)))))))).A5
  have hS:=hS.close' hk.1 hk.2 (by rfl) (by rfl) (by rfl)
  refine⟨_,⟨V.A3 k sv,ls.put k ⟨sl.queue,sl.wait,sl.told⟩,ev,J,?ga2,J⟩,hS⟩
  case ga2=>exact YQ hk.1 hk.2 hsv hlv y2 c1
 refine Gm J (Gt (AM J J) (Gt (AM J J) (Gt (AM J J) (Gt (Bb J) (Gt (Al Na J) ?_)))))
 refine AT (AL ((AU.A3 V hk.1 hk.2).comp A4.l3) J J J Pc J (.t (.t (.t (.t .h))))) ?_
 refine Ga J (Ga J (Gn (.t4 0 1 4 5) (Gs (Gm J (Gt (BZ J) (Gn (.t4 0 1 4 25) ?_))))))
 refine D9 J J ?_
 refine Aa ?_
 refine AB (.t3 0 1 4) ?_
 refine AA (Gs (Gm J (Gt (Bb J) (Gt (Al D2 J) (Gt (Al SN J) (Gt (AI J D3 .m4 (((AU.A3 V hk.1 hk.2).comp A4.l4).comp Av.l2) J J) (Ga J ?_)))))))
 refine Gn (.t4 0 1 4 6) (Gs (Gm J (Gm J (Gt (Bb J) (Gt (Al D2 J) (Gt (AZ J C4 .m4 ((AU.A3 V hk.1 hk.2).comp A4.l4) J) ?_))))))
 refine BC J jH (.c J .n) (fun w hS=>OG _ w) ?_
 refine Gt (Bb J) (Gt (Al D2 J) ?_)
 refine AT (AL ((AU.A3 V hk.1 hk.2).comp A4.l4) J J J Fb J (.t (.t (.t (.t .h))))) ?_
 refine Gn (.t4 0 1 4 6) (Ag (Aq ?_))
 refine Ep (.c .h (.c (.t .h) (.c (.t .h) (.c (.t .h) (.c (.t .h) .n))))) ?_
 refine Hp hk.1 hk.2 (by rfl) (by rfl) (by rfl) ?_
 refine AJ (Gm J (Ga J (Gn (.t4 0 1 4 43) ?_)))
 refine Gc (fun c2=>?_) (fun c2=>?_)
 ·
  refine Aa ?_
  refine AB (.nil _) ?_
  refine AV ?_
  refine Bs J .n ?_
  intro w1 hS
  have hS:=(hS.perm (Ax.perm (.c .h (.c .h (.c (.t .h) .n))))).A5
  exact⟨_,⟨(AN.A3 V k { sv with ER:=⟨sv.ER.now,sv.ER.long,sv.ER.ret,y6⟩,out:=⟨sv.out.wait,0,false,sv.out.ring,sv.out.cut⟩ }),(ls.put k ⟨y4,sl.wait,sl.told⟩),ev,J,(Dv (ev:=ev) hk.1 hk.2 hsv hlv y5 c1 y6).1.trans ((Dv (ev:=ev) hk.1 hk.2 hsv hlv y5 c1 y6).2.2.trans (if_pos c2)).symm,J⟩,hS⟩
 have c2p:=kz c2
 refine Gs (Gm J (Gt (Bb J) (Gt (Al Jx J) (Gt (AI J A8 .m0 ((AN.l1.comp (AU.arr (n:=4) A4.fl hk.1 hk.2)).comp A4.l0) J J) (Gt (Ai J J) (Ga J (Gn (.t4 0 1 4 45) ?_)))))))
 refine Gc (fun c3=>?_) (fun c3=>?_)
 ·
  have c3p:=kz c3
  refine AJ (Gm J (Gm J (Gm J ?_)))
  refine BC J gp (.c J (.c J .n)) (fun w hS=>Ig y3 (by have h:y3.length≤1000:=(by have h:=(hF.queue k hk.1 hk.2).2 y3 (by rw [(Dv (ev:=ev) hk.1 hk.2 hsv hlv y5 c1 y6).2.1];exact List.mem_cons_self ..);omega);omega) w) ?_
  refine BL J iy (.c J (.c J (.c J .n))) (.c .h (.c .h (.c (.t .h) .n))) (R0 _ (AN.A3 V k { sv with ER:=⟨sv.ER.now,sv.ER.long,sv.ER.ret,y6⟩,out:=⟨sv.out.wait,0,false,sv.out.ring,sv.out.cut⟩ }) (ls.put k ⟨y4,sl.wait,sl.told⟩) ev k _ n m hk (by rw [(Dv (ev:=ev) hk.1 hk.2 hsv hlv y5 c1 y6).1];exact hF.E1 hk.1 hk.2 (Dv (ev:=ev) hk.1 hk.2 hsv hlv y5 c1 y6).2.1) hn hm (by have h:y3.length≤1000:=(by have h:=(hF.queue k hk.1 hk.2).2 y3 (by rw [(Dv (ev:=ev) hk.1 hk.2 hsv hlv y5 c1 y6).2.1];exact List.mem_cons_self ..);omega);have h1:=Words.MV 32 (Words.SA 32 y3);have h2:=Words.Rw 32 y3;omega)) (fun w hS=>⟨gl0.pull gm0 hS (.c .h (.c .h (.c (.t .h) .n))),gl1.pull gm1 hS (.c .h (.c .h (.c (.t .h) .n)))⟩) (fun v9 B hv=>?_)
  obtain⟨y10,y11,y12,rfl,y13,rfl⟩:=hv
  refine AR (AB (.nil _) ?_)
  refine AV ?_
  refine Bs J .n ?_
  intro w1 hS
  have hS:=(hS.perm (Ax.perm (.c .h (.c .h (.c .h .n))))).A5
  have c9:decide (sv.state=1)=true:=by
    have h:=c3
    rw [show(AN.Ar (AN.A3 V k { sv with ER:=⟨sv.ER.now,sv.ER.long,sv.ER.ret,y6⟩,out:=⟨sv.out.wait,0,false,sv.out.ring,sv.out.cut⟩ })).at k=_ from Vector.CA hk.1 hk.2] at h
    exact h
  refine⟨_,⟨y10,y11,y12,J,?ga4,J⟩,hS⟩
  case ga4=>exact y13.trans ((congrArg (fun X=>AG.named X k _) (Dv (ev:=ev) hk.1 hk.2 hsv hlv y5 c1 y6).1).trans ((Dv (ev:=ev) hk.1 hk.2 hsv hlv y5 c1 y6).2.2.trans ((AX c2).trans (BG c9))).symm)
 have c3p:=kz c3
 refine AJ (Gm J (Gm J (Gm J ?_)))
 refine BL J jF (.c J (.c J (.c J .n))) (.c .h (.c .h (.c (.t .h) .n))) (Qq _ (AN.A3 V k { sv with ER:=⟨sv.ER.now,sv.ER.long,sv.ER.ret,y6⟩,out:=⟨sv.out.wait,0,false,sv.out.ring,sv.out.cut⟩ }) (ls.put k ⟨y4,sl.wait,sl.told⟩) ev k _ n m hk (by rw [(Dv (ev:=ev) hk.1 hk.2 hsv hlv y5 c1 y6).1];exact hF.E1 hk.1 hk.2 (Dv (ev:=ev) hk.1 hk.2 hsv hlv y5 c1 y6).2.1) hn hm (by have h:=(hF.queue k hk.1 hk.2).2 y3 (by rw [(Dv (ev:=ev) hk.1 hk.2 hsv hlv y5 c1 y6).2.1];exact List.mem_cons_self ..);omega)) (fun w hS=>⟨gl0.pull gm0 hS (.c .h (.c .h (.c (.t .h) .n))),gl1.pull gm1 hS (.c .h (.c .h (.c (.t .h) .n))),gl2.pull gm2 hS (.c .h (.c .h (.c (.t .h) .n))),gl3.pull gm3 hS (.c .h (.c .h (.c (.t .h) .n)))⟩) (fun v14 B hv=>?_)
 obtain⟨y15,y16,y17,rfl,y18,rfl⟩:=hv
 refine AR (AB (.nil _) ?_)
 refine AV ?_
 refine Bs J .n ?_
 intro w1 hS
 have hS:=(hS.perm (Ax.perm (.c .h (.c .h (.c .h .n))))).A5
 have c9:decide (sv.state=1)=false:=by
   have h:=c3
   rw [show(AN.Ar (AN.A3 V k { sv with ER:=⟨sv.ER.now,sv.ER.long,sv.ER.ret,y6⟩,out:=⟨sv.out.wait,0,false,sv.out.ring,sv.out.cut⟩ })).at k=_ from Vector.CA hk.1 hk.2] at h
   exact h
 refine⟨_,⟨y15,y16,y17,J,?ga5,J⟩,hS⟩
 case ga5=>exact y18.trans ((congrArg (fun X=>AG.order X k _) (Dv (ev:=ev) hk.1 hk.2 hsv hlv y5 c1 y6).1).trans ((Dv (ev:=ev) hk.1 hk.2 hsv hlv y5 c1 y6).2.2.trans ((AX c2).trans (AX c9))).symm)
theorem Pz (X:AH)(b:Int)(hF:(AE.Fh X b).Fit):FO Tryz.prog 97 #[.agg X.enc.toArray, .int .i64 b] [] (fun w=>(GV 0 AH.DU w∧0 ∉ Ch [])) (fun v B=>∃ h:Hd,v = .tuple #[.agg ((AE.IT X b).w.enc).toArray,h.val]∧h.len=(AE.IT X b).out.length∧B = [Ab.own h 56 16 ((AE.IT X b).out.flatMap Ing.Event.enc)]):=by
 intro w hS0 hH
 obtain⟨gl0,gm0⟩:=hH
 have hb:0≤b∧b < 6:=hF.b
 refine Ap _ _ Tryz.func97 J J J (hS0) ?_
 refine Gs ?_
 refine CB J J J (fun b1=>?_)
 refine BJ J N8 J (fun b2=>?_)
 refine Ga J (Gn (.t3 1 2 4) (Gs (Gt (AZ J Bf .m1 (AU.id AH.fl.len AH.fl.one) J) (Gm J (Gt (BF Wk Wd J (.cons Af.l0 J J J (.cons Af.l1 J J J .nil))) ?_)))))
 refine CB J J J (fun b3=>?_)
 refine Ga J (Gn (.t3 1 4 6) (Gs (Gm J (Gm J (Gt (Bb J) (Gt (Al BB J) (Gt (Al Bx J) ?_)))))))
 refine Gt (AQ DI J J (by first | omega | exact hb.1 | exact hb.2 | (dsimp only;omega)) (by first | omega | exact hb.1 | exact hb.2 | (dsimp only;omega))) ?_
 refine Gt (Al Kl J) ?_
 refine AT (AL (((Af.l0.comp AH.l2).comp (AU.ar (n:=6) Am.fl (by first | omega | exact hb | (dsimp only;omega)))).comp Am.l4) J J J DO J .h) ?_
 refine Gn (.t3 1 4 6) (Gs (Gm J ?_))
 refine Dy Ing.Event.enc 56 16 ?_
 refine Ak J Wv (.c J (.c J .n)) (.c (.t .h) (.c .h .n)) (G4 _ (AE.Fh X b) _ 15 J hb (Nat.zero_le _)) (fun v2 B hv=>?_)
 obtain⟨y3,rfl,y4,rfl⟩:=hv
 refine Gn (.t3 1 4 6) (Gs (Gm J ?_))
 refine Ak J dD (.c J .n) (.c .h .n) (Mp _ ((AE.Fh X b).kind 15) _ (hF.Ew J J)) (fun v5 B hv=>?_)
 obtain⟨y6,y7,rfl,rfl⟩:=hv
 refine Gn (.t3 1 4 6) (CL (Gm J (Gt (BA J J) (Gn (.t4 1 4 6 24) ?_))))
 refine Gc (fun c1=>?_) (fun c1=>?_)
 ·
  have c1p:=kz c1
  refine Gs (Gm J (Gm J (Gt (BF Yk MX J .nil) (Gt (Bb J) (Gt (Al BB J) (Gt (Al Bx J) ?_))))))
  refine Gt (AQ DI J J (by first | omega | exact hb.1 | exact hb.2 | (dsimp only;omega)) (by first | omega | exact hb.1 | exact hb.2 | (dsimp only;omega))) ?_
  refine AT (AL ((Af.l0.comp AH.l2).comp (AU.ar (n:=6) Am.fl (by first | omega | exact hb | (dsimp only;omega)))) J J J LH J .h) ?_
  refine Gn (.t2 4 6) (Aq ?_)
  refine BE (N:=10) [0,1,3,7,0,16,48,112,15,511] mix (by kernel_rfl) J ?_
  refine Pf 0 J (AF J) (Pf 1 J (Bb J) (Pf 2 J (Al BB J) (Pf 3 J (AZ J Bf .m0 Af.l0 J) (Pf 4 J (AF J) (Pf 5 J (Bb J) (Pf 6 J (Al CT J) (Pf 7 J (AI J D1 .m0 Af.l2 J J) ?_)))))))
  refine Aj 8 J (by kernel_rfl) ?_
  refine AT (AL (AU.id AH.fl.len AH.fl.one) J J J EP J (.t (.t .h))) ?_
  refine BO J ⟨?_,?_⟩
  · exact(Po J (AI J D1 .m0 Af.l2 J J) J J (Po J (Al CT J) J J (Po J (Bb J) J J (Po J (AF J) J J (Pk (Pk (Pk (Pk As))))))))
  refine Pf 9 J (A0 J) ?_
  refine A2 (by kernel_rfl) ?_
  refine AB (.t2 4 5) ?_
  refine AA (Ac (AD ?_))
  refine AY J (.cell J .m2 (.inl ⟨(by rw [AH.fl.len];exact Bf),J⟩) (.tmp J .n)) ?_
  intro w1 hS
  have hS:=(hS.perm (Ax.perm (.c (.t .h) .n))).A5
  have hq:AE.IT X b=_:=BG c1
  rw [AE.Wm y7] at hq
  refine⟨_,⟨y3,?hv,?hl,?hB⟩,hS⟩
  case hv=>rw [hq];rfl
  case hl=>rw [hq];exact y4
  case hB=>rw [hq]
 have c1p:=kz c1
 refine Aa ?_
 refine AB (.t3 1 4 6) ?_
 refine AA (Gs (Gm J (Gm J (Gt (Bb J) (Gt (Al BB J) (Gt (Al Bx J) ?_))))))
 refine Gt (AQ DI J J (by first | omega | exact hb.1 | exact hb.2 | (dsimp only;omega)) (by first | omega | exact hb.1 | exact hb.2 | (dsimp only;omega))) ?_
 refine Ga J (Gn (.t3 4 6 7) (Gs (Gm J (Gm J (Gt (Bb J) (Gt (Al DE J) ?_))))))
 refine AT (AL (((Af.l0.comp AH.l2).comp (AU.ar (n:=6) Am.fl (by first | omega | exact hb | (dsimp only;omega)))).comp Am.l3) J J J DO J .h) ?_
 refine Gt (Bb J) (Gt (Al Kl J) ?_)
 refine AT (AL (((Af.l0.comp AH.l2).comp (AU.ar (n:=6) Am.fl (by first | omega | exact hb | (dsimp only;omega)))).comp Am.l4) J J J DO J .h) ?_
 refine Gn (.t2 4 6) (Aq ?_)
 refine Gw (fun _=> .h) (congrArg (fun q=>Af.enc ⟨q,b,y3⟩) (AE.cA y6 hb)) ?_
 have hT2:=AE.bo y7
 have hf2:=AE.Tq hF
 rw [hT2] at hf2
 refine AJ (Gm J ?_)
 refine Ak J Wv (.c J (.c J .n)) (.c .h (.c .h .n)) (G4 _ (⟨y6.C1 b { y6.AO.at b with room:=0,BP:=10 },b,((AE.Fh X b).kind 15).out⟩:AE) _ 17 y4 hb (by decide:(0:Nat)+1≤100000)) (fun v8 B hv=>?_)
 obtain⟨y9,rfl,y10,rfl⟩:=hv
 refine Gn (.t2 4 6) (Gs (Gm J ?_))
 refine BL J WB (.c J .n) (.c .h (.c .h .n)) (Hh _ ((⟨y6.C1 b { y6.AO.at b with room:=0,BP:=10 },b,((AE.Fh X b).kind 15).out⟩:AE).kind 17) _ y10 hb hf2.br (by decide:(0:Nat)+1+1≤90000)) (fun w hS=>gl0.pull gm0 hS (.c .h (.c .h .n))) (fun v11 B hv=>?_)
 obtain⟨y12,rfl,y13,rfl⟩:=hv
 refine Gn (.t2 4 6) (Aq ?_)
 refine BE (N:=10) [0,1,3,7,0,16,48,112,15,511] mix (by kernel_rfl) J ?_
 refine Pf 0 J (AF J) (Pf 1 J (Bb J) (Pf 2 J (Al BB J) (Pf 3 J (AZ J Bf .m0 Af.l0 J) (Pf 4 J (AF J) (Pf 5 J (Bb J) (Pf 6 J (Al CT J) (Pf 7 J (AI J D1 .m0 Af.l2 J J) ?_)))))))
 refine Aj 8 J (by kernel_rfl) ?_
 refine AT (AL (AU.id AH.fl.len AH.fl.one) J J J EP J (.t (.t .h))) ?_
 refine BO J ⟨?_,?_⟩
 · exact(Po J (AI J D1 .m0 Af.l2 J J) J J (Po J (Al CT J) J J (Po J (Bb J) J J (Po J (AF J) J J (Pk (Pk (Pk (Pk As))))))))
 refine Pf 9 J (A0 J) ?_
 refine A2 (by kernel_rfl) ?_
 refine AB (.t2 4 5) ?_
 refine AA (Ac ?_)
 refine AY J (.cell J .m2 (.inl ⟨(by rw [AH.fl.len];exact Bf),J⟩) (.tmp J .n)) ?_
 intro w1 hS
 have hS:=(hS.perm (Ax.perm (.c (.t .h) .n))).A5
 have hq:AE.IT X b=_:=AX c1
 rw [hT2] at hq
 refine⟨_,⟨y12,?hv,?hl,?hB⟩,hS⟩
 case hv=>rw [hq];rfl
 case hl=>rw [hq];exact y13
 case hB=>rw [hq]
theorem NL (X:AH)(d:Int)(hw:X.DV):FO Tryz.prog 78 #[.agg X.enc.toArray, .int .i64 d] [] (fun w=>(GV 0 AH.DU w∧0 ∉ Ch [])) (fun v B=>∃ h:Hd,v = .tuple #[.agg ((AE.CU X d).1.enc).toArray,h.val, .int .i64 (AE.CU X d).2.2]∧h.len=(AE.CU X d).2.1.length∧B = [Ab.own h 56 16 ((AE.CU X d).2.1.flatMap Ing.Event.enc)]):=by
 intro w hS0 hH
 obtain⟨gl0,gm0⟩:=hH
 have hm:=C2 d
 refine Ap _ _ Tryz.func78 J J J (hS0) ?_
 refine Gs ?_
 refine CB J J J (fun b1=>?_)
 refine BJ J N8 J (fun b2=>?_)
 refine Ga J (Ga J (Gn (.t3 1 2 4) (CL (Gt (AZ J Bf .m1 (AU.id AH.fl.len AH.fl.one) J) ?_))))
 refine BC J dh (.c J .n) (fun w hS=>H6 _ w) ?_
 refine Gt (BZ J) (Gn (.t4 1 2 4 16) ?_)
 refine Gc (fun c1=>?_) (fun c1=>?_)
 ·
  refine Gs (Gt (AZ J Bf .m1 (AU.id AH.fl.len AH.fl.one) J) ?_)
  refine AT (AL (AU.id AH.fl.len AH.fl.one) J J J EP J .h) ?_
  refine Ga J (Ga J (Gn (.t3 4 5 6) (Ac (AD ?_))))
  refine AY J (.cell J .m0 (.inl ⟨(by rw [AH.fl.len];exact Bf),J⟩) (.tmp J (.tmp J .n))) ?_
  intro w1 hS
  have hS:=hS.Cx 56 16
  have hS:=(hS.perm (Ax.perm (.c .h .n))).A5
  have hq:AE.CU X d=_:=BG c1
  refine⟨_,⟨⟨none,0,0⟩,?hv,?hl,?hB⟩,hS⟩
  case hv=>rw [hq];rfl
  case hl=>rw [hq];rfl
  case hB=>rw [hq];rfl
 have c1p:=kz c1
 refine Aa ?_
 refine AB (.t3 1 2 4) ?_
 refine AA (Gs (Ga J (AR (AA (CL (Gm J (AR ?_)))))))
 refine AA (Ag ?_)
 refine Bw (.t5 7 18 1 2 4) ?_
 refine E2 Ing.Event.enc 56 16 ?_
 refine Be (.t (.t .h)) ?_
 refine Be (.t .h) ?_
 refine Dx (fun(k:Int) (s:AH × List Ing.Event) (h:Hd)=>0≤k∧k≤6∧s=AE.Dp X d k.toNat∧s.1.Bk=true∧s.1.DV∧(s.2.length:Int)≤13 * k∧h.len=s.2.length) (fun(k:Int) (s:AH × List Ing.Event) (h:Hd)=>(6 - k).toNat) (fun(k:Int) (s:AH × List Ing.Event) (h:Hd)=> [(7,h.val),(18, .int .i64 k)]) (fun(k:Int) (s:AH × List Ing.Event) (h:Hd)=> [Ab.own h 56 16 (s.2.flatMap Ing.Event.enc),Ab.box b1 35 (AH.enc s.1)]) (0) ((X,[])) (_) ?_ J J (fun k s h hI1=>?_)
 · exact⟨by omega,by omega,rfl,by simpa using c1,hw,by simp,rfl⟩
 obtain⟨hI11,hI12,hI13,hI14,hI15,hI16,hI17⟩:=hI1
 refine Gs (Gt (BA J J) (AR (AA (Aq ?_))))
 refine Gc (fun c2=>?_) (fun c2=>?_)
 ·
  have c2p:=kz c2
  have hbe:=AE.Hk hI14 hI11 (show k < 6 by omega)
  have hfo:=hbe.B7
  refine Aa ?_
  refine AB (.t5 1 2 4 7 18) ?_
  refine AA (Aq (Ag (Gs (Gm J (Ga J (Gn (.t6 1 2 4 7 8 18) (Gs ?_)))))))
  refine Gm J (Gt (Al Bx J) ?_)
  refine Gt (AQ DI J J (by first | omega | (dsimp only;omega) | (have:=C2 (d.tmod 3+3+k);omega)) (by first | omega | (dsimp only;omega) | (have:=C2 (d.tmod 3+3+k);omega))) ?_
  refine Gt (AZ J GM .m1 (AH.l2.comp (AU.arr (n:=6) Am.fl (by first | omega | (dsimp only;omega) | (have:=C2 (d.tmod 3+3+k);omega)) (by first | omega | (dsimp only;omega) | (have:=C2 (d.tmod 3+3+k);omega)))) J) ?_
  refine BJ J MX J (fun b3=>?_)
  refine AT (AL (AU.id Am.fl.len Am.fl.one) J J J LH J .h) ?_
  refine Gn (.t7 1 2 4 7 8 9 18) (CL (Gt (Al JA J) (Gt (AI J D3 .m0 Am.l1 J J) (Gt (BZ J) (Gm J (Bj 28 J J (fun q=>Al Gf J) (Bj 28 J J (fun q=>AI (cF J q) A8 .m0 Am.l5 J J) ?_)))))))
  refine Bj 28 J J (fun q=>Ai (cF J q) J) ?_
  refine Gt (Ba J J (fun h=>by rw [h];rfl)) ?_
  refine Gn (.t8 1 2 4 7 8 9 18 32) ?_
  refine Gc (fun c3=>?_) (fun c3=>?_)
  ·
   have c3p:=kz c3
   refine Bg (AW (Ah ?_))
   refine AB (.t5 1 2 4 7 18) ?_
   refine AA (AJ ?_)
   refine Gt (Ay J J (IntWalk.i64_in _ (by first | omega | (dsimp only;omega) | (have:=C2 (d.tmod 3+3+k);omega)))) ?_
   refine Gm J ?_
   refine AR (AB (.t5 1 2 4 7 18) ?_)
   refine B2 (k+1) (s) _ ?_ ?_ (.t5 7 18 1 2 4) (.cons _ (.refl _))
   · have hrs:AE.Eb d k s=_:=(BG c3)
     have hrg:=AE.Fy (draw:=d) hI14 hI15 hI11 (by omega)
     rw [hrs] at hrg
     exact⟨by omega,by omega,by rw [AE.Ie hI11,← hI13,hrs],hrg.1,hrg.2.1,(by have:=hrg.2.2;omega),(by first | assumption | (have hso:(AE.CE s.1 k ((s.1.AO.at k).B7 - 1) (AE.hit d k)).out.length=1:=rfl;(try dsimp only at *);simp only [List.length_append] at *;omega))⟩
   · omega
  have c3p:=kz c3
  have hf0:0≤((s.1.AO.at k).B7 - 1)∧((s.1.AO.at k).B7 - 1) < 6:=by omega
  have hbf:=(AE.Hk hI14 hf0.1 hf0.2).BP
  refine Aa ?_
  refine AB (.t7 1 2 4 7 8 9 18) ?_
  refine AA (Gs (Gt (Al Gf J) (Gt (AI J A8 .m0 Am.l5 J J) ?_)))
  refine Gt (FT J J (IntWalk.i64_in _ (by first | omega | (dsimp only;omega) | (have:=C2 (d.tmod 3+3+k);omega)))) ?_
  refine Ga J (Gn (.t8 1 2 4 7 8 9 10 18) (Aq (Aq ?_)))
  refine BE (N:=16) [0,0,3,7,15,31,63,127,127,511,1023,2047,127,4223,16383,32767] mix (by kernel_rfl) J ?_
  refine Pf 0 J (AF J) (Pf 1 J (Al Bx J) ?_)
  refine Pf 2 J (AQ DI J J (by first | omega | (dsimp only;omega) | (have:=C2 (d.tmod 3+3+k);omega)) (by first | omega | (dsimp only;omega) | (have:=C2 (d.tmod 3+3+k);omega))) ?_
  refine Pf 3 J (Al JA J) ?_
  refine Pf 4 J (AI J D3 .m2 ((AH.l2.comp (AU.arr (n:=6) Am.fl (by first | omega | (dsimp only;omega) | (have:=C2 (d.tmod 3+3+k);omega)) (by first | omega | (dsimp only;omega) | (have:=C2 (d.tmod 3+3+k);omega)))).comp Am.l1) J J) ?_
  refine Pf 5 J (BZ J) (Pf 6 J (AF J) (IN 7 42 J J J (fun q=>AF J) (IN 8 42 J J J (fun q=>Al Bx J) ?_)))
  refine BI 9 J J (by kernel_rfl) (Hf (t:=42) J J (fun q=>by have q1:=q;(try simp at q1);exact F6 (AQ DI (cF rfl q) (cF rfl q) (by first | omega | (dsimp only;omega) | (have:=C2 (d.tmod 3+3+k);omega)) (by first | omega | (dsimp only;omega) | (have:=C2 (d.tmod 3+3+k);omega))))) ?_
  refine IN 10 42 J J J (fun q=>Al DE (cF J q)) ?_
  refine BI 11 J J (by kernel_rfl) (Hf (t:=42) J J (fun q=>by have q1:=q;(try simp at q1);exact F6 (AI (cF rfl q) A8 .m2 ((AH.l2.comp (AU.arr (n:=6) Am.fl (by first | omega | (dsimp only;omega) | (have:=C2 (d.tmod 3+3+k);omega)) (by first | omega | (dsimp only;omega) | (have:=C2 (d.tmod 3+3+k);omega)))).comp Am.l3) rfl rfl))) ?_
  refine IN 12 42 J J J (fun q=>Al DE J) (IN 13 42 J J J (fun q=>AI (cF J q) A8 .m0 Am.l3 J J) (IN 14 42 J J J (fun q=>Cm (cF J q) (cF J q)) ?_))
  refine Pf 15 J (Ba J J (fun h=>by rw [h];rfl)) ?_
  refine A2 (by kernel_rfl) ?_
  refine AB (.t8 1 2 4 7 8 10 18 51) ?_
  refine AA ?_
  refine Gc (fun c4=>?_) (fun c4=>?_)
  ·
   have c4p:=kz c4
   refine Gs (Gm J (Gt (Al Bx J) ?_))
   refine Gt (AQ DI J J (by first | omega | (dsimp only;omega) | (have:=C2 (d.tmod 3+3+k);omega)) (by first | omega | (dsimp only;omega) | (have:=C2 (d.tmod 3+3+k);omega))) ?_
   refine Gt (Al Gf J) ?_
   refine AT (AL ((AH.l2.comp (AU.arr (n:=6) Am.fl (by first | omega | (dsimp only;omega) | (have:=C2 (d.tmod 3+3+k);omega)) (by first | omega | (dsimp only;omega) | (have:=C2 (d.tmod 3+3+k);omega)))).comp Am.l5) J J J DO J (.t (.t .h))) ?_
   refine Gn (.t5 1 2 4 7 18) (Bg (AW (Ah (AA (AJ ?_)))))
   refine Gt (Ay J J (IntWalk.i64_in _ (by first | omega | (dsimp only;omega) | (have:=C2 (d.tmod 3+3+k);omega)))) ?_
   refine Gm J ?_
   refine AR (AB (.t5 1 2 4 7 18) ?_)
   refine B2 (k+1) ((s.1.C1 k { s.1.AO.at k with B7:=0 },s.2)) _ ?_ ?_ (.t5 7 18 1 2 4) (.cons _ (.refl _))
   · have hrs:AE.Eb d k s=_:=((AX c3).trans (BG c4))
     have hrg:=AE.Fy (draw:=d) hI14 hI15 hI11 (by omega)
     rw [hrs] at hrg
     exact⟨by omega,by omega,by rw [AE.Ie hI11,← hI13,hrs],hrg.1,hrg.2.1,(by have:=hrg.2.2;omega),(by first | assumption | (have hso:(AE.CE s.1 k ((s.1.AO.at k).B7 - 1) (AE.hit d k)).out.length=1:=rfl;(try dsimp only at *);simp only [List.length_append] at *;omega))⟩
   · omega
  have c4p:=kz c4
  have hsf:=AE.L0 (b:=k) (n:=AE.hit d k) hI14 hI15 (B7:=((s.1.AO.at k).B7 - 1)) hf0.1 hf0.2 c4p.1
  have hht:=AE.Ma (draw:=d) hI11
  refine Aa ?_
  refine AB (.t7 1 2 4 7 8 10 18) ?_
  refine AA (Gs (Gm J ?_))
  refine Gt (VO J J (by first | omega | (dsimp only;omega) | (have:=C2 (d.tmod 3+3+k);omega))) ?_
  refine Gt (Ay J J (IntWalk.i64_in _ (by first | omega | (dsimp only;omega) | (have:=C2 (d.tmod 3+3+k);omega)))) ?_
  refine Gm J ?_
  refine Gt (Ay J J (IntWalk.i64_in _ (by first | omega | (dsimp only;omega) | (have:=C2 (d.tmod 3+3+k);omega)))) ?_
  refine Gt (VO J J (by first | omega | (dsimp only;omega) | (have:=C2 (d.tmod 3+3+k);omega))) ?_
  refine Gt (Ay J J (IntWalk.i64_in _ (by first | omega | (dsimp only;omega) | (have:=C2 (d.tmod 3+3+k);omega)))) ?_
  refine Ga J (Gn (.t8 1 2 4 7 8 10 11 18) (Gs (Gt (AZ J Bf .m2 (AU.id AH.fl.len AH.fl.one) J) (Gm J (Gt (BF Wk Wd J (.cons Af.l0 J J J (.cons Af.l1 J J J .nil))) ?_)))))
  refine CB J J J (fun b4=>?_)
  refine Ga J (Gn (.t8 1 2 4 7 10 11 12 18) (Gs (Gm J (Gm J (Gm J (Gt (BF QW JE J (.cons Ing.Event.l0 J J J (.cons Ing.Event.l3 J J J (.cons Ing.Event.l5 J J J .nil)))) ?_))))))
  refine Dy Ing.Event.enc 56 16 ?_
  refine Ak J Pw (.c J (.c J .n)) (.c (.t .h) (.c .h .n)) (CY _ ⟨s.1,k,[]⟩ _ { AE.GF 14 with other:=((s.1.AO.at k).B7 - 1),n:=AE.hit d k } J (show 0≤k∧k < 6 by omega) (show((s.1.AO.at k).B7 - 1) < 6 by omega) (Nat.zero_le _)) (fun v3 B hv=>?_)
  obtain⟨y4,rfl,y5,rfl⟩:=hv
  refine Gn (.t8 1 2 4 7 10 11 12 18) (Aq ?_)
  refine BE (N:=16) [0,0,0,0,12,28,60,0,252,508,1,1025,3073,8191,16383,32767] mix (by kernel_rfl) J ?_
  refine Pf 0 J (AF J) (Pf 1 J (AF J) (Pf 2 J (AF J) (Pf 3 J (Al Bx J) ?_)))
  refine Pf 4 J (AQ DI J J (by first | omega | (dsimp only;omega) | (have:=C2 (d.tmod 3+3+k);omega)) (by first | omega | (dsimp only;omega) | (have:=C2 (d.tmod 3+3+k);omega))) ?_
  refine Pf 5 J (Al Kl J) ?_
  refine Pf 6 J (AI J A8 .m4 ((AH.l2.comp (AU.arr (n:=6) Am.fl (by first | omega | (dsimp only;omega) | (have:=C2 (d.tmod 3+3+k);omega)) (by first | omega | (dsimp only;omega) | (have:=C2 (d.tmod 3+3+k);omega)))).comp Am.l4) J J) ?_
  refine Pf 7 J (AF J) ?_
  refine Pf 8 J (FT J J (IntWalk.i64_in _ (by first | omega | (dsimp only;omega) | (have:=C2 (d.tmod 3+3+k);omega)))) ?_
  refine Pf 9 J (Mq J J) (Pf 10 J (Bb J) (Pf 11 J (Al BB J) (Pf 12 J (Al Bx J) ?_)))
  refine Pf 13 J (AQ DI J J (by first | omega | (dsimp only;omega) | (have:=C2 (d.tmod 3+3+k);omega)) (by first | omega | (dsimp only;omega) | (have:=C2 (d.tmod 3+3+k);omega))) ?_
  refine Pf 14 J (Al Kl J) ?_
  refine Aj 15 J (by kernel_rfl) ?_
  refine AT (AL (((Af.l0.comp AH.l2).comp (AU.arr (n:=6) Am.fl (by first | omega | (dsimp only;omega) | (have:=C2 (d.tmod 3+3+k);omega)) (by first | omega | (dsimp only;omega) | (have:=C2 (d.tmod 3+3+k);omega)))).comp Am.l4) J J J DO J .h) ?_
  refine BO J ⟨?_,?_⟩
  · exact(Pk (Pk (Pk (Pk (Pk (Pk (Pk (Pk (Pk (Pk (Pk (Pk (Pk (Pk (Pk As)))))))))))))))
  refine A2 (by kernel_rfl) ?_
  refine AB (.t7 1 2 4 7 10 12 18) ?_
  refine AA (Aq ?_)
  have hl1:y4.len=1:=y5
  refine AJ (Gm J (Gm J (Gt (Bb J) (Gt (Al CT J) (Gt (AI J D1 .m0 Af.l2 J J) ?_)))))
  refine CW Ing.Event.fl J Tryz.underlying53 QN JE J bF (by decide) (by decide) J J (fun w hS=>Src.D4 Tryz.underlying53 ((Kn.own .m1) w hS)) (by(try dsimp only at *);omega) (fun _=>(.t (.t (.t .h)))) (fun h6 h6l h6z=>?_)
  refine Ga J (Gn (.t7 1 2 4 7 10 12 18) (Gs (Gm J (Gt (Bb J) (Gt (Al BB J) (Gt (AZ J Bf .m0 Af.l0 J) ?_))))))
  refine AT (AL (AU.id AH.fl.len AH.fl.one) J J J EP J (.t (.t (.t (.t .h))))) ?_
  refine Gn (.t6 1 2 4 7 10 18) (Gs (Gm J (Gt (Al Bx J) ?_)))
  refine Gt (AQ DI J J (by first | omega | (dsimp only;omega) | (have:=C2 (d.tmod 3+3+k);omega)) (by first | omega | (dsimp only;omega) | (have:=C2 (d.tmod 3+3+k);omega))) ?_
  refine Gt (Al Kl J) ?_
  refine Gt (AI J A8 .m4 ((AH.l2.comp (AU.arr (n:=6) Am.fl (by first | omega | (dsimp only;omega) | (have:=C2 (d.tmod 3+3+k);omega)) (by first | omega | (dsimp only;omega) | (have:=C2 (d.tmod 3+3+k);omega)))).comp Am.l4) J J) ?_
  refine Gt (Ai J J) (Gn (.t7 1 2 4 7 10 18 102) ?_)
  refine Gc (fun c5=>?_) (fun c5=>?_)
  ·
   have c5p:=kz c5
   refine Gs (Ga J (Gn (.t6 1 2 4 7 10 18) (Gs (Gt (AZ J Bf .m4 (AU.id AH.fl.len AH.fl.one) J) (Gm J ?_)))))
   refine BL J iw (.c J (.c J .n)) .n (Pz (AE.CE s.1 k ((s.1.AO.at k).B7 - 1) (AE.hit d k)).w ((s.1.AO.at k).B7 - 1) hsf) (fun w hS=>gl0.pull gm0 hS .n) (fun v7 B hv=>?_)
   obtain⟨y8,rfl,y9,rfl⟩:=hv
   refine Gm J (Gt (AM J J) (Gt (AM J J) ?_))
   refine AT (AL (AU.id AH.fl.len AH.fl.one) J J J EP J (.t (.t (.t (.t (.t .h)))))) ?_
   refine Ga J (Gn (.t6 1 2 4 7 13 18) ?_)
   have hl2:y8.len≤12:=by rw [y9];exact(AE.RA hsf).2.2
   refine AJ (Gm J (Gm J ?_))
   refine CW Ing.Event.fl J Tryz.underlying53 QN JE J bF (by decide) (by decide) J J (fun w hS=>Src.D4 Tryz.underlying53 ((Kn.own .m0) w hS)) (by(try dsimp only at *);omega) (fun _=>(.t (.t (.t (.t .h))))) (fun h11 h11l h11z=>?_)
   refine Ga J ?_
   refine AR (AB (.t5 1 2 4 7 18) ?_)
   refine AV (AA (AJ ?_))
   refine Gt (Ay J J (IntWalk.i64_in _ (by first | omega | (dsimp only;omega) | (have:=C2 (d.tmod 3+3+k);omega)))) ?_
   refine Gm J ?_
   refine AR (AB (.t5 1 2 4 7 18) ?_)
   refine B2 (k+1) (((AE.IT (AE.CE s.1 k ((s.1.AO.at k).B7 - 1) (AE.hit d k)).w ((s.1.AO.at k).B7 - 1)).w,(s.2++(AE.CE s.1 k ((s.1.AO.at k).B7 - 1) (AE.hit d k)).out)++(AE.IT (AE.CE s.1 k ((s.1.AO.at k).B7 - 1) (AE.hit d k)).w ((s.1.AO.at k).B7 - 1)).out)) _ ?_ ?_ (.t5 7 18 1 2 4) (.cons _ (.cons _ (.cons _ (.cons _ (.refl _)))))
   · have hrs:AE.Eb d k s=_:=((AX c3).trans ((AX c4).trans (BG c5)))
     have hrg:=AE.Fy (draw:=d) hI14 hI15 hI11 (by omega)
     rw [hrs] at hrg
     exact⟨by omega,by omega,by rw [AE.Ie hI11,← hI13,hrs],hrg.1,hrg.2.1,(by have:=hrg.2.2;omega),(by first | assumption | (have hso:(AE.CE s.1 k ((s.1.AO.at k).B7 - 1) (AE.hit d k)).out.length=1:=rfl;(try dsimp only at *);simp only [List.length_append] at *;omega))⟩
   · omega
  have c5p:=kz c5
  refine Aa ?_
  refine AB (.t5 1 2 4 7 18) ?_
  refine AV (AA (AJ ?_))
  refine Gt (Ay J J (IntWalk.i64_in _ (by first | omega | (dsimp only;omega) | (have:=C2 (d.tmod 3+3+k);omega)))) ?_
  refine Gm J ?_
  refine AR (AB (.t5 1 2 4 7 18) ?_)
  refine B2 (k+1) (((AE.CE s.1 k ((s.1.AO.at k).B7 - 1) (AE.hit d k)).w,s.2++(AE.CE s.1 k ((s.1.AO.at k).B7 - 1) (AE.hit d k)).out)) _ ?_ ?_ (.t5 7 18 1 2 4) (.cons _ (.cons _ (.cons _ (.refl _))))
  · have hrs:AE.Eb d k s=_:=((AX c3).trans ((AX c4).trans (AX c5)))
    have hrg:=AE.Fy (draw:=d) hI14 hI15 hI11 (by omega)
    rw [hrs] at hrg
    exact⟨by omega,by omega,by rw [AE.Ie hI11,← hI13,hrs],hrg.1,hrg.2.1,(by have:=hrg.2.2;omega),(by first | assumption | (have hso:(AE.CE s.1 k ((s.1.AO.at k).B7 - 1) (AE.hit d k)).out.length=1:=rfl;(try dsimp only at *);simp only [List.length_append] at *;omega))⟩
  · omega
 have c2p:=kz c2
 obtain rfl:k=6:=by omega
 refine Bg (AW (AW (Ah ?_)))
 refine AB (.t3 2 4 7) ?_
 refine AA (Gs (Gt (AZ J Bf .m1 (AU.id AH.fl.len AH.fl.one) J) (Gm J ?_)))
 refine AT (AL (AU.id AH.fl.len AH.fl.one) J J J EP J (.t (.t .h))) ?_
 refine Ga J (Ga J (Gn (.t3 4 5 6) (Ac ?_)))
 refine AY J (.cell J .m2 (.inl ⟨(by rw [AH.fl.len];exact Bf),J⟩) (.tmp J (.tmp J .n))) ?_
 intro w1 hS
 have hS:=(hS.perm (Ax.perm (.c .h .n))).A5
 have hq:AE.CU X d=((AE.Dp X d 6).1,(AE.Dp X d 6).2,0):=AX c1
 have hs6:s=AE.Dp X d 6:=hI13
 rw [← hs6] at hq
 refine⟨_,⟨h,?hv,?hl,?hB⟩,hS⟩
 case hv=>rw [hq];(try rfl)
 case hl=>rw [hq];exact hI17
 case hB=>rw [hq];(try rfl)
theorem Eh (p:Av)(s:Ad)(hs:s.length≤9000000000000000000)(w:World):Ev Tryz.prog 62 #[.agg p.enc.toArray,BW s] w fun v w'=>v = .tuple #[.agg (Av.enc ⟨p.wait,(Page.send p s).1.shown,(Page.send p s).1.B5,(Page.send p s).1.ring,(Page.send p s).1.cut⟩).toArray, .int .i64 (Page.send p s).2]∧CH w w':=by
 refine Ap [] [] Tryz.func62 J J J (St.start w []) ?_
 refine Gs ?_
 refine CB J J J (fun b1=>?_)
 refine BJ J Tv J (fun b2=>?_)
 refine Ga J (Gn (.t3 1 2 4) (Aq (Ag (Gs (Gt (AZ J C4 .m1 (AU.id Av.fl.len Av.fl.one) J) ?_)))))
 refine BC J eD (.c J .n) (fun w hS=>HZ _ w) ?_
 refine Gt (BZ J) (Ga J (Gn (.t4 1 2 4 6) ?_))
 refine Gc (fun c1=>?_) (fun c1=>?_)
 ·
  refine Gs (Gt (AZ J C4 .m1 (AU.id Av.fl.len Av.fl.one) J) ?_)
  refine AT (AL (AU.id Av.fl.len Av.fl.one) J J J Fb J .h) ?_
  refine Ga J (Gn (.t2 4 5) (Ac (AS (AD ?_))))
  refine AY J (.cell J .m0 (.inl ⟨(by rw [Av.fl.len];exact C4),J⟩) (.tmp J .n)) ?_
  intro w1 hS;refine⟨?_,hS.Ao⟩;simp only [Page.send,Page.put,Page.of,c1,↓reduceIte,Bool.false_eq_true];rfl
 have c1p:=kz c1
 have hg:=(Page.H8 p).1 (by simpa using c1)
 refine Gs (Gt (Al L9 J) (Gt (AI J D3 .m1 Av.l4 J J) (Ga J (Gn (.t4 1 2 4 11) ?_))))
 refine Gc (fun c2=>?_) (fun c2=>?_)
 ·
  refine Gs (Gt (AZ J C4 .m1 (AU.id Av.fl.len Av.fl.one) J) ?_)
  refine AT (AL (AU.id Av.fl.len Av.fl.one) J J J Fb J .h) ?_
  refine Ga J (Gn (.t2 4 5) (Ac (AS (AD ?_))))
  refine AY J (.cell J .m0 (.inl ⟨(by rw [Av.fl.len];exact C4),J⟩) (.tmp J .n)) ?_
  intro w1 hS;refine⟨?_,hS.Ao⟩;rw [show Page.send p s=(Page.of p,6) from by simp only [Page.send,c1,c2,↓reduceIte,Bool.false_eq_true]];rfl
 have c2p:=kz c2
 refine Gs (Gm J (Gt (BN J Tryz.underlying9 J) (Gt (Al I2 J) (Gt (AI J CO .m1 Av.l3 J J) (Gt (BN J Tryz.underlying9 J) ?_)))))
 refine Gt (FT J J (IntWalk.i64_in _ (by first | omega | (simp at *;omega)))) ?_
 refine Gt (Cs J J) (Ga J (Gn (.t4 1 2 4 15) ?_))
 refine Gc (fun c3=>?_) (fun c3=>?_)
 ·
  refine Gs (Gt (Al L9 J) ?_)
  refine AT (AL Av.l4 J J J LG J (.t .h)) ?_
  refine Gn (.t2 2 4) (Gs (Gt (AZ J C4 .m1 (AU.id Av.fl.len Av.fl.one) J) ?_))
  refine AT (AL (AU.id Av.fl.len Av.fl.one) J J J Fb J .h) ?_
  refine Ga J (Gn (.t2 4 5) (Ac (AS (AD ?_))))
  refine AY J (.cell J .m0 (.inl ⟨(by rw [Av.fl.len];exact C4),J⟩) (.tmp J .n)) ?_
  intro w1 hS;refine⟨?_,hS.Ao⟩;simp only [Page.send,Page.put,Page.of,c1,c2,c3,↓reduceIte,Bool.false_eq_true];rfl
 have c3p:=kz c3
 refine Aa ?_
 refine AB (.t3 1 2 4) ?_
 refine AV (AA (Gs (Gt (Al I2 J) (Gt (AI J CO .m1 Av.l3 J J) (Gm J ?_)))))
 refine Gt (CJ J J (by first | omega | (simp at *;omega))) ?_
 refine Gt (Al I2 J) ?_
 refine AT (AL Av.l3 J J J Ed J (.t .h)) ?_
 refine Gn (.t2 2 4) (Gs (Gt (AZ J C4 .m1 (AU.id Av.fl.len Av.fl.one) J) ?_))
 refine AT (AL (AU.id Av.fl.len Av.fl.one) J J J Fb J .h) ?_
 refine Ga J (Gn (.t2 4 5) (Ac ?_))
 refine AY J (.cell J .m0 (.inl ⟨(by rw [Av.fl.len];exact C4),J⟩) (.tmp J .n)) ?_
 intro w1 hS;refine⟨?_,hS.Ao⟩;simp only [Page.send,Page.put,Page.of,c1,c2,c3,↓reduceIte,Bool.false_eq_true];rfl
theorem IV (b:Nat)(m:Int)(h0:0 < m)(h1:m≤281474976710656):KN Tryz.prog 186 #[.pointer (some ⟨b,0,none⟩), .int .i64 m] [Ab.box b 107 (Dk.enc ⟨some ⟨b,0,none⟩,⟨none,0,0⟩⟩)] (fun v B=>∃ h',v = .tuple #[]∧h'.Z∧h'.len=0∧B = [Ab.box b 107 (Dk.enc ⟨some ⟨b,0,none⟩,h'⟩),Ab.own h' 5 1 (([]:Ad).flatMap Di)]):=by
 intro w hS0
 refine Ap _ _ Tryz.func186 J J J (hS0) ?_
 refine Aq ?_
 refine BE (N:=16) [0,1,3,7,15,31,0,127,255,0,512,1536,3584,7680,16383,32767] mix (by kernel_rfl) J ?_
 refine Pf 0 J (AF J) (Pf 1 J (Bb J) (Pf 2 J (Al FG J) (Pf 3 J (AI J I8 .m0 Dk.l1 J J) (Pf 4 J (Mu J Tryz.underlying105 J) ?_))))
 refine Pf 5 J (Zw J J (IntWalk.i64_in _ (by first | omega | (dsimp only;omega)))) ?_
 refine Pf 6 J (AF J) ?_
 refine Pf 7 J (Ay J J (IntWalk.i64_in _ (by first | omega | (dsimp only;omega)))) ?_
 refine Pf 9 J (AF J) (Pf 10 J (Bb J) (Pf 11 J (Al FG J) (Pf 12 J (AI J I8 .m0 Dk.l1 J J) (Pf 13 J (Au J Tryz.underlying105 J) ?_))))
 refine Aj 8 J (by kernel_rfl) ?_
 refine TC (ps:=#[3]) J Tryz.func193 (by kernel_rfl) (by kernel_rfl) (by kernel_rfl) (by kernel_rfl) Tryz.underlying105 XG J (by first | omega | (dsimp only;omega)) (by first | omega | (dsimp only;omega)) (fun b1 b1c b1x b1l b1k=>?_)
 refine Bu J ⟨?_,?_⟩
 · exact(Po J (Au J Tryz.underlying105 J) J J (Po J (AI J I8 .m1 Dk.l1 J J) J J (Po J (Al FG J) J J (Po J (Bb J) J J (Po J (AF J) J J (Pk (Pk (Pk (Pk (Pk (Pk (Pk (Pk As)))))))))))))
 refine Aj 14 J (by kernel_rfl) ?_
 refine LA Ye J Tryz.underlying105 XG J J (by first | omega | (dsimp only;omega)) (by first | omega | (dsimp only;omega)) (fun _=> .h) ?_
 refine Bu J ⟨?_,?_⟩
 · exact(Pk (Pk (Pk (Pk (Pk (Pk (Pk (Pk (Pk (Pk (Pk (Pk (Pk As)))))))))))))
 refine Pf 15 J (A0 J) ?_
 refine A2 (by kernel_rfl) ?_
 refine AB (.t2 0 4) ?_
 refine AA (Gs (Gm J (Gm J (Gt (Bb J) (Gt (Al FG J) (Gt (AI J I8 .m1 Dk.l1 J J) (Gt (aR J Tryz.underlying105 XG J J) ?_)))))))
 refine Gn (.t2 0 4) (AJ (Gm J (Gm J (Gt (Bb J) (Gt (Al FG J) ?_)))))
 refine AT (AL Dk.l1 J J J WJ J (.t .h)) ?_
 refine AR ?_
 refine Bs J .n ?_
 intro w1 hS
 have hS:=(hS.perm (Ax.perm (.c (.t .h) (.c .h .n)))).A5
 exact⟨_,⟨_,J,⟨by intro a h;cases h;rfl,fun _=>by dsimp only at b1k ⊢;omega⟩,rfl,rfl⟩,hS⟩
theorem IQ (b:Nat)(m:Int)(h0:0≤m)(h1:m≤281474976710656):KN Tryz.prog 175 #[.pointer (some ⟨b,0,none⟩), .int .i64 m] [Ab.box b 107 (Dk.enc ⟨none,⟨none,0,0⟩⟩)] (fun v B=>∃ h',v = .tuple #[]∧h'.Z∧h'.len=0∧B = [Ab.box b 107 (Dk.enc ⟨some ⟨b,0,none⟩,h'⟩),Ab.own h' 5 1 (([]:Ad).flatMap Di)]):=by
 intro w hS0
 refine Ap _ _ Tryz.func175 J J J (hS0) ?_
 refine Gs (Gm J ?_)
 refine Ak J eV (.c J .n) (.c .h .n) (DM _ _ _ (.inl J)) (fun v1 B hv=>?_)
 obtain⟨rfl,rfl⟩:=hv
 refine Gn (.t2 0 1) (CL (Gm J (Gt (BA J J) (Gn (.t3 0 1 7) ?_))))
 refine D9 J (by simp;omega) ?_
 refine Aa ?_
 refine AB (.t2 0 1) ?_
 refine AA (Aq ?_)
 refine BE (N:=13) [0,1,3,7,15,0,32,96,224,480,1023,0,4095] mix (by kernel_rfl) J ?_
 refine Pf 0 J (AF J) (Pf 1 J (Bb J) (Pf 2 J (Al FG J) (Pf 3 J (AI J I8 .m0 Dk.l1 J J) (Pf 4 J (Mu J Tryz.underlying105 J) (Pf 5 J (AF J) (Pf 6 J (Bb J) (Pf 7 J (Al FG J) ?_)))))))
 refine Pf 8 J (AI J I8 .m0 Dk.l1 J J) (Pf 9 J (Au J Tryz.underlying105 J) ?_)
 refine Pf 10 J (FT J J (IntWalk.i64_in _ (by first | omega | (dsimp only;omega)))) ?_
 refine Pf 11 J (AF J) (Pf 12 J (BA J J) ?_)
 refine A2 (by kernel_rfl) ?_
 refine AB (.t3 0 1 21) ?_
 refine AA ?_
 refine Gc (fun c1=>?_) (fun c1=>?_)
 ·
  have c1p:=kz c1
  refine AJ (Gm J (Gm J ?_))
  refine Ak J iB (.c J (.c J .n)) (.c .h .n) (IV _ _ (by dsimp only at *;omega) h1) (fun v2 B hv=>?_)
  obtain⟨y3,rfl,y4,y5,rfl⟩:=hv
  refine AR ?_
  refine Bs J .n ?_
  intro w1 hS
  have hS:=(hS.perm (Ax.perm (.c .h (.c .h .n)))).A5
  exact⟨_,⟨_,J,by assumption,by assumption,rfl⟩,hS⟩
 refine Aa ?_
 refine Bs J .n ?_
 intro w1 hS
 have hS:=hS.Cx 5 1
 have hS:=(hS.perm (Ax.perm (.c (.t .h) (.c .h .n)))).A5
 exact⟨_,⟨_,J,Hd.Wo,J,J⟩,hS⟩
theorem KI (s:Ad)(hs:s.length≤70368744000000)(w:World):Ev Tryz.prog 158 #[BW s,BW [255],BW [255,255], .int .i64 (-1)] w fun v w'=>v=BW (Page.escape s)∧CH w w':=by
 have hcl:=List.count_le_length (a:=(255:UInt8)) (l:=s)
 refine Ap [] [] Tryz.func158 J J J (St.start w []) ?_
 refine Gs (Ga J (Gn (.t4 0 1 2 3) (CL (Gm J (Gm J (Gt (B4 J J) (Gm J ?_)))))))
 refine Bj 19 J J (fun q=>AF J) (Bj 19 J J (fun q=>Ai (cF J q) J) ?_)
 refine Gt (Ba J J (fun h=>by rw [h];rfl)) ?_
 refine Gn (.t5 0 1 2 3 22) ?_
 refine D9 J (by simp) ?_
 refine Aa ?_
 refine AB (.t4 0 1 2 3) ?_
 refine AA (CL (Gm J (Gm J ?_)))
 refine BC J dC (.c J (.c J .n)) (fun w hS=>Hx _ 255 w) ?_
 refine Ga J (Gn (.t5 0 1 2 3 9) (Gs (Gm J (Gt (Ai J J) (Gn (.t6 0 1 2 3 9 28) ?_)))))
 refine Gc (fun c1=>?_) (fun c1=>?_)
 ·
  have c1p:=kz c1
  refine Gs (Gm J (Ga J (Gn (.t1 8) (Ac (AD ?_)))))
  refine AY J (.tmp J .n) ?_
  intro w1 hS;refine⟨?_,hS.Ao⟩;have e:s.count 255=0:=by simp at c1;omega
  rw [Page.N1 _ e];rfl
 have c1p:=kz c1
 refine Gs (Gm J (Gt (BA J J) (Gm J (Bj 32 J J (fun q=>AF J) (Bj 32 J J (fun q=>AF J) (Bj 32 J J (fun q=>BA (cF J q) (cF J q)) ?_))))))
 refine Gt (Ba J J (fun h=>by rw [h];rfl)) ?_
 refine Gn (.t6 0 1 2 3 9 36) ?_
 refine HW J J ?_
 refine AJ (Gm J (Ga J (Gn (.t4 0 1 2 3) (Gs ?_))))
 refine BJ J WI J (fun b1=>?_)
 refine Dy Di 5 1 ?_
 refine AR (AA (Gs (Gm J (Gt (BN J Tryz.underlying9 J) (Gm J (Gm J (Gt (BN J Tryz.underlying9 J) ?_)))))))
 refine Gm J (Gt (BN J Tryz.underlying9 J) ?_)
 refine Gt (FT J J (IntWalk.i64_in _ (by(try simp only [List.length_cons,List.length_nil]);omega))) ?_
 refine Gt (Zw J J (IntWalk.i64_in _ (by(try simp only [List.length_cons,List.length_nil]);omega))) ?_
 refine Gt (Ay J J (IntWalk.i64_in _ (by(try simp only [List.length_cons,List.length_nil]);omega))) ?_
 refine Ak J gG (.c J (.c J .n)) (.c (.t .h) .n) (IQ _ _ (by simp only [List.length_cons,List.length_nil];omega) (by simp only [List.length_cons,List.length_nil];omega)) (fun v1 B hv=>?_)
 obtain⟨y2,rfl,y3,y4,rfl⟩:=hv
 refine Gn (.t5 0 1 2 3 10) (Gs (Ga J (AR (AA (CL (Gm J (Gt (BN J Tryz.underlying9 J) ?_)))))))
 refine Gt (Cs J J) (Gn (.t7 0 1 2 3 10 11 51) ?_)
 refine HW J (by simp) ?_
 refine Gs (Gm J (Gm J (Gn (.t7 0 1 2 10 11 52 53) (Ag ?_))))
 refine Bw (.t7 11 53 0 1 2 10 52) ?_
 refine Be (.t .h) ?_
 refine Be (.t .h) ?_
 refine UD (fun(k:Int) (start:Int) (x:Ad) (p:Option Addr) (h:Hd)=>Page.Sg s (s.count 255) k start x∧(p=none∨p=some ⟨b1,0,none⟩)∧h.Z∧h.len=x.length) (fun(k:Int) (start:Int) (x:Ad) (p:Option Addr) (h:Hd)=>((s.count 255:Int) - k).toNat) (fun(k:Int) (start:Int) (x:Ad) (p:Option Addr) (h:Hd)=> [(11, .int .i64 start),(53, .int .i64 k)]) (fun(k:Int) (start:Int) (x:Ad) (p:Option Addr) (h:Hd)=> [Ab.box b1 107 (Dk.enc ⟨p,h⟩),Ab.own h 5 1 (x.flatMap Di)]) (0) (0) ([]) (_) (_) ?_ J J (fun k start x p h hI1=>?_)
 · exact⟨Page.Sg.start J, .inr J,by assumption,by assumption⟩
 obtain⟨hI11,hp,hz,hl⟩:=hI1;have hk0:=hI11.k0;have hs0:=hI11.s0;have hs1:=hI11.s1;have hxl:=hI11.xl
 refine Gs (Gt (BA J J) (AR (AA (Aq ?_))))
 refine Gc (fun c2=>?_) (fun c2=>?_)
 ·
  have c2p:=kz c2
  obtain⟨i,hi,hlt,hR⟩:=hI11.idx (by omega)
  rw [← hi] at hR hlt
  refine Aa ?_
  refine AB (.t7 0 1 2 10 11 52 53) ?_
  refine AA (Aq (Ag (Gs (Gm J (Gm J (Gm J ?_))))))
  refine Gt (HA Tryz.underlying9 J J (by(try simp only [List.length_cons,List.length_nil]);omega) (by(try simp only [List.length_cons,List.length_nil]);omega)) ?_
  refine Gm J ?_
  refine BC J Y7 (.c J (.c J .n)) (fun w hS=>Fo _ 255 w) ?_
  refine Gt (Ay J J (IntWalk.i64_in _ (by(try simp only [List.length_cons,List.length_nil]);omega))) ?_
  refine Ga J (Gn (.t8 0 1 2 10 11 12 52 53) (Gs (Gm J (Gm J (Gm J ?_)))))
  refine Gt (cK Tryz.underlying9 J J J (by(try simp only [List.length_cons,List.length_nil]);omega) (by(try simp only [List.length_cons,List.length_nil]);omega) (by(try simp only [List.length_cons,List.length_nil]);omega)) ?_
  refine Ak J Qs (.c J (.c J .n)) (.c .h (.c .h .n)) (BS _ _ _ _ (by assumption) (by assumption) (by assumption) _ (by(try simp only [List.length_drop,List.length_take,List.length_append,List.length_cons,List.length_nil]);omega)) (fun v6 B hv=>?_)
  obtain⟨y7,y8,rfl,y9,y10,y11,rfl⟩:=hv
  refine Gn (.t7 0 1 2 10 12 52 53) (Gs (Gm J ?_))
  refine Ak J Qs (.c J (.c J .n)) (.c .h (.c .h .n)) (BS _ _ _ _ (by assumption) (by assumption) (by assumption) _ (by(try simp only [List.length_drop,List.length_take,List.length_append,List.length_cons,List.length_nil]);omega)) (fun v12 B hv=>?_)
  obtain⟨y13,y14,rfl,y15,y16,y17,rfl⟩:=hv
  refine Gn (.t7 0 1 2 10 12 52 53) (AJ (Gm J (Gm J (Gt (BN J Tryz.underlying9 J) ?_))))
  refine Gt (Ay J J (IntWalk.i64_in _ (by(try simp only [List.length_cons,List.length_nil]);omega))) ?_
  refine Ga J ?_
  refine AR (AB (.t7 0 1 2 10 11 52 53) ?_)
  refine AV (AA (AJ ?_))
  refine Gt (Ay J J (IntWalk.i64_in _ (by(try simp only [List.length_cons,List.length_nil]);omega))) ?_
  refine Gm J ?_
  refine AR (AB (.t7 0 1 2 10 11 52 53) ?_)
  refine LD (k+1) _ _ _ _ ?_ ?_ (.t7 11 53 0 1 2 10 52) (.refl _)
  · exact⟨hR,by assumption,by assumption,by assumption⟩
  · omega
 have c2p:=kz c2
 refine Bg (AW (AW (Ah ?_)))
 refine AB (.t3 0 10 11) ?_
 refine AA (Gs (Gm J (Gm J ?_)))
 refine Gt (HA Tryz.underlying9 J J (by(try simp only [List.length_cons,List.length_nil]);omega) (by(try simp only [List.length_cons,List.length_nil]);omega)) ?_
 refine Ak J Qs (.c J (.c J .n)) (.c .h (.c .h .n)) (BS _ _ _ _ (by assumption) (by assumption) (by assumption) _ (by(try simp only [List.length_drop,List.length_take,List.length_append,List.length_cons,List.length_nil]);omega)) (fun v18 B hv=>?_)
 obtain⟨y19,y20,rfl,y21,y22,y23,rfl⟩:=hv
 refine Gn (.t1 10) (Gs ?_)
 refine Ak J ch (.c J .n) (.c .h (.c .h .n)) (C5 _ _ _ _ (by assumption) (by assumption) (by(try simp only [List.length_append,List.length_drop]);omega)) (fun v24 B hv=>?_)
 obtain⟨rfl,rfl⟩:=hv
 refine Ga J (Gn (.t1 8) (Ac ?_))
 refine AY J (.tmp J .n) ?_
 intro w1 hS;refine⟨?_,hS.Ao⟩;rw [← hI11.done (by omega)];rfl
theorem JX (s:Ad)(hs:s.length≤70368744000000)(w:World):Ev Tryz.prog 126 #[BW s,BW [255],BW [255,255]] w fun v w'=>v=BW (Page.escape s)∧CH w w':=by
 refine Ap [] [] Tryz.func126 J J J (St.start w []) ?_
 refine Gs (Ga J (Gn (.t3 0 1 2) (Gs (Gm J (Gm J (Gm J ?_))))))
 refine BC J iD (.c J (.c J (.c J (.c J .n)))) (fun w hS=>KI _ (by first | assumption | omega) w) ?_
 refine Ga J (Gn (.t1 6) (Ac ?_))
 refine AY J (.tmp J .n) ?_
 intro w1 hS;refine⟨?_,hS.Ao⟩;rfl
theorem Lo (s:Ad)(hs:s.length≤70368744000000)(w:World):Ev Tryz.prog 98 #[BW s] w fun v w'=>v=BW (Page.escape s)∧CH w w':=by
 refine Ap [] [] Tryz.func98 J J J (St.start w []) ?_
 refine Gs (Ga J (Gn (.t1 0) (Gs (Gm J ?_))))
 refine BC J iR (.c J (.c J (.c J .n))) (fun w hS=>JX _ (by first | assumption | omega) w) ?_
 refine Ga J (Gn (.t1 2) (Ac ?_))
 refine AY J (.tmp J .n) ?_
 intro w1 hS;refine⟨?_,hS.Ao⟩;rfl
theorem OK {t0:Nat}(p:Av)(qs:List Ad)(top:Int)(hs:∀ s∈qs,s.length≤70368744000000):FO Tryz.prog 83 #[.agg p.enc.toArray, .int .i64 top] [] (fun w=>Rd w p.wait t0 1 (qs.flatMap A6)∧p.wait.len≤p.wait.cap) (fun v B=>((!Page.Bk p || decide (top < 0) || decide (200 < top))=true∧v = .tuple #[.agg p.enc.toArray, .int .i64 2]∧B = [])∨((!Page.Bk p || decide (top < 0) || decide (200 < top))=false∧∃(T:Nat) (h' g:Hd) (zs:List Ad),v = .tuple #[.agg (Av.enc ⟨h',(Page.BH top qs (Page.of p)).1.shown,(Page.BH top qs (Page.of p)).1.B5,(Page.BH top qs (Page.of p)).1.ring,(Page.BH top qs (Page.of p)).1.cut⟩).toArray, .int .i64 0]∧h'.len=(Page.BH top qs (Page.of p)).2.length∧fK T h' (Page.BH top qs (Page.of p)).2 t0 p.wait qs 9 g zs∧B = [Ab.own g 9 1 (zs.flatMap A6)])):=by
 intro w hS0 hH
 obtain⟨r0,k0⟩:=hH
 have hl0:=r0.Lz C7 (by decide)
 refine Ap _ _ Tryz.func83 J J J (hS0) ?_
 refine Gs ?_
 refine CB J J J (fun b1=>?_)
 refine BJ J Tv J (fun b2=>?_)
 refine Ga J (Gn (.t3 1 2 4) (CL (Gt (AZ J C4 .m1 (AU.id Av.fl.len Av.fl.one) J) ?_)))
 refine BC J eD (.c J .n) (fun w hS=>HZ _ w) ?_
 refine Gt (BZ J) (Gm J (Bj 10 J J (fun q=>AF J) (Bj 10 J J (fun q=>BA (cF J q) J) ?_)))
 refine Gt (Ba J J (fun h=>by rw [h];rfl)) ?_
 refine Gm J (Bj 14 J J (fun q=>AF J) (Bj 14 J J (fun q=>Cs (cF J q) J) ?_))
 refine Gt (Ba J J (fun h=>by rw [h];rfl)) ?_
 refine Gn (.t4 1 2 4 17) ?_
 refine Gc (fun c1=>?_) (fun c1=>?_)
 ·
  refine Gs (Gt (AZ J C4 .m1 (AU.id Av.fl.len Av.fl.one) J) ?_)
  refine AT (AL (AU.id Av.fl.len Av.fl.one) J J J Fb J .h) ?_
  refine Ga J (Gn (.t2 4 5) (Ac (AD ?_)))
  refine AY J (.cell J .m0 (.inl ⟨(by rw [Av.fl.len];exact C4),J⟩) (.tmp J .n)) ?_
  intro w1 hS
  have hS:=(hS.perm (Ax.perm .n)).A5
  exact⟨_, .inl ⟨c1,J,J⟩,hS⟩
 have c1p:=kz c1
 have hgd:Page.Bk p=true∧0≤top∧top≤200:=by simp at c1;exact⟨c1.1.1,by omega,by omega⟩
 refine Aa ?_
 refine AB (.t3 1 2 4) ?_
 refine AA (Aq (Ag ?_))
 refine Bw (.t3 1 2 4) ?_
 refine E2 A6 9 1 ?_
 refine Be (.t (.t .h)) ?_
 refine Be (.t .h) ?_
 refine Yl (fun(rest:List Ad) (sh:Int) (ak:Bool) (ring:Ad) (ct:Bool) (T:Nat) (hx:Hd) (g:Hd) (zs:List Ad)=>Page.FI top qs (Page.of p) rest hx ⟨sh,ak,ring,ct⟩∧fK T hx rest t0 p.wait qs 9 g zs) (fun(rest:List Ad) (sh:Int) (ak:Bool) (ring:Ad) (ct:Bool) (T:Nat) (hx:Hd) (g:Hd) (zs:List Ad)=>rest.length) (fun(rest:List Ad) (sh:Int) (ak:Bool) (ring:Ad) (ct:Bool) (T:Nat) (hx:Hd) (g:Hd) (zs:List Ad)=> []) (fun(rest:List Ad) (sh:Int) (ak:Bool) (ring:Ad) (ct:Bool) (T:Nat) (hx:Hd) (g:Hd) (zs:List Ad)=> [Ab.own g 9 1 (zs.flatMap A6),Ab.box b1 65 (Av.enc ⟨hx,sh,ak,ring,ct⟩)]) (qs) (p.shown) (p.B5) (p.ring) (p.cut) (t0) (p.wait) (_) (_) ?_ J J (fun rest sh ak ring ct T hx g zs hI1=>?_)
 · exact⟨Page.FI.start hgd.1 hl0 hs, .inl ⟨J,J,J,J,J⟩⟩
 obtain⟨hI11,hor⟩:=hI1;have hl:=hI11.hl;have hn:=hI11.n;have hr:=hI11.ring;have hs0:=hI11.s0;have hs1:=hI11.s1;dsimp only at hr hs0 hs1
 refine CL (Gt (Al HS J) (Gt (AI J EU .m1 Av.l0 J J) (Gt (Au J Tryz.underlying52 J) (Gt (Cs J J) (Gm J (Bp 23 J J (fun q=>Al SN J) (Bp 23 J J (fun q=>AI (Bo J q) D3 .m1 Av.l2 J J) ?_)))))))
 refine Bp 23 J J (fun q=>BZ (Bo J q)) (Gt (BQ J J (fun h=>h)) (Gm J (Bp 28 J J (fun q=>Al L9 J) (Bp 28 J J (fun q=>AI (Bo J q) D3 .m1 Av.l4 J J) (Bp 28 J J (fun q=>BZ (Bo J q)) (Gt (BQ J J (fun h=>h)) (Gn (.t4 1 2 4 32) ?_)))))))
 refine Gc (fun c2=>?_) (fun c2=>?_)
 ·
  have c2p:=kz c2
  have hc3:0 < rest.length∧ak=false∧ct=false:=by simp at c2;exact⟨by omega,c2.1.2,c2.2⟩
  obtain⟨hc0,hak,hct⟩:=hc3
  obtain⟨q,r,rfl⟩:=Bh.Wy (qs:=rest) (by omega)
  refine Aa ?_
  refine AB (.t3 1 2 4) ?_
  refine AA (Ag (CL (Gm J (Gt (Cs J J) (Gm J (Bp 35 J J (fun q=>Al Nd J) (Bp 35 J J (fun q=>AI (Bo J q) A8 .m1 Av.l1 J J) ?_)))))))
  refine Bp 35 J J (fun q=>AF J) (Bp 35 J J (fun q=>CZ (Bo J q) (Bo J q)) (Gt (BQ J J (fun h=>h)) (Gn (.t4 1 2 4 40) ?_)))
  refine Gc (fun c3=>?_) (fun c3=>?_)
  ·
   have c3p:=kz c3
   refine Gs (Gt (Al SN J) ?_)
   refine AT (AL Av.l2 J J J LG J (.t .h)) ?_
   refine Gn (.t2 2 4) (Gs (Gt (AZ J C4 .m1 (AU.id Av.fl.len Av.fl.one) J) ?_))
   refine BC J Zr (.c J (.c J .n)) (fun w hS=>Eh _ _ (by first | omega | (have h1:=Page.IC ((q :: r).getD (0:Int).toNat []);have h2:=hI11.len ((q :: r).getD (0:Int).toNat []) (by simp);simp only [List.length_append,List.length_cons,List.length_nil] at *;omega)) w) ?_
   refine Gm J (Gt (AM J J) (Gt (AM J J) ?_))
   refine AT (AL (AU.id Av.fl.len Av.fl.one) J J J Fb J (.t .h)) ?_
   refine Gn (.t2 2 4) (Bg (AW ?_))
   refine KC J ?_
   refine AW (Ah (AA (Gs (Gt (AZ J C4 .m1 (AU.id Av.fl.len Av.fl.one) J) ?_))))
   refine AT (AL (AU.id Av.fl.len Av.fl.one) J J J Fb J (.t (.t .h))) ?_
   refine Ga J (Gn (.t2 4 5) (Ac ?_))
   refine AY J (.cell J .m2 (.inl ⟨(by rw [Av.fl.len];exact C4),J⟩) (.tmp J .n)) ?_
   intro w1 hS
   have hS:=(hS.perm (Ax.perm (.c .h .n))).A5
   have e:=hI11.asks hak hct c3
   exact⟨_, .inr ⟨c1,T,hx,g,zs,(by first | (rw [e];done) | (rw [e];rfl)),(by rw [e];exact hI11.hl),(by rw [e];exact hor),J⟩,hS⟩
  have c3p:=kz c3
  refine Aa ?_
  refine AB (.t3 1 2 4) ?_
  refine AA (Gs (Gt (Al HS J) (Gt (AI J EU .m1 Av.l0 J J) ?_)))
  refine Gt (Bz JO (by decide) (fB hor (Kn.I7 r0) (Kn.own .m0)) J J (by omega) (by omega)) ?_
  refine Gt (DY J CO (fB hor (Kn.I7 r0) (Kn.own .m0)) (by simp)) ?_
  refine Ga J (Gn (.t4 1 2 4 6) (Gs (Gt (Al HS J) (Gt (AI J EU .m1 Av.l0 J J) ?_))))
  refine Gt (PW Tryz.underlying52 Ed J J (by decide) (by first | omega | (have h1:=Page.IC ((q :: r).getD (0:Int).toNat []);have h2:=hI11.len ((q :: r).getD (0:Int).toNat []) (by simp);simp only [List.length_append,List.length_cons,List.length_nil] at *;omega))) ?_
  refine BL J X1 (.c J .n) .n (B6 _ r (by simp only [List.length_cons] at *;omega)) (fun w hS=>by have h:=(Kn.cut (l:=1) (r:=hx.len) C7 (fB hor (Kn.I7 r0) (Kn.own .m0)) (by omega) (Nat.le_refl _) (gX hor (Uh.of k0) (Uh.own .m0))) w hS;rw [show(((q :: r).take hx.len).drop 1)=r from by rw [List.take_of_length_le (by simp only [List.length_cons] at *;omega)];rfl] at h;exact h) (fun v2 B hv=>?_)
  obtain⟨y3,rfl,y4,rfl⟩:=hv
  refine Gt (Al HS J) ?_
  refine AT (AL Av.l0 J J J MA J (.t (.t .h))) ?_
  refine Gn (.t4 1 2 4 6) (Gs (Gt (Al Nd J) (Gt (AI J A8 .m2 Av.l1 J J) ?_)))
  refine Gt (Ay J J (IntWalk.i64_in _ (by first | omega | (have h1:=Page.IC ((q :: r).getD (0:Int).toNat []);have h2:=hI11.len ((q :: r).getD (0:Int).toNat []) (by simp);simp only [List.length_append,List.length_cons,List.length_nil] at *;omega)))) ?_
  refine Gt (Mt J J) (Gt (Al Nd J) ?_)
  refine AT (AL Av.l1 J J J DO J (.t (.t .h))) ?_
  refine Gn (.t4 1 2 4 6) ?_
  refine BE (N:=9) [0,0,2,6,15,31,63,63,127] mix (by kernel_rfl) J ?_
  refine Pf 0 J (AZ J C4 .m2 (AU.id Av.fl.len Av.fl.one) J) (Pf 1 J (AF J) ?_)
  refine BI 2 J J (by kernel_rfl) (LI (J4 (D0 jc (.c J .n) (fun w hS=>Lo _ (hI11.len _ (by simp)) w)))) ?_
  refine Pf 3 J (CJ J J (by first | omega | (have h1:=Page.IC ((q :: r).getD (0:Int).toNat []);have h2:=hI11.len ((q :: r).getD (0:Int).toNat []) (by simp);simp only [List.length_append,List.length_cons,List.length_nil] at *;omega))) ?_
  refine BI 4 J J (by kernel_rfl) (LI (J4 (D0 Zr (.c J (.c J .n)) (fun w hS=>Eh _ _ (by first | omega | (have h1:=Page.IC ((q :: r).getD (0:Int).toNat []);have h2:=hI11.len ((q :: r).getD (0:Int).toNat []) (by simp);simp only [List.length_append,List.length_cons,List.length_nil] at *;omega)) w)))) ?_
  refine Pf 5 J (AF J) (Pf 6 J (AM J J) (Pf 7 J (AM J J) ?_))
  refine Aj 8 J (by kernel_rfl) ?_
  refine AT (AL (AU.id Av.fl.len Av.fl.one) J J J Fb J (.t (.t .h))) ?_
  refine BO J ⟨?_,?_⟩
  · exact(Po J (AM J J) J J (Pk (Pk (Pk (Pk (Pk (Pk (Pk As))))))))
  refine A2 (by kernel_rfl) ?_
  refine AB (.t3 1 2 4) ?_
  refine AV ?_
  refine CK (.c .h (.c (.t .h) (.c (.t .h) .n))) ?_
  refine Cl ?_
  refine XF (r) _ _ _ _ (9) _ _ (r) ?_ ?_ (.t3 1 2 4) (.refl _)
  · exact⟨hI11.next hak hct c3 (by assumption) J, .inr ⟨J,J,J⟩⟩
  · simp only [List.length_cons];omega
 refine Bg (AW (AW (Ah ?_)))
 refine AB (.t2 2 4) ?_
 refine AA (Gs (Gt (AZ J C4 .m1 (AU.id Av.fl.len Av.fl.one) J) ?_))
 refine AT (AL (AU.id Av.fl.len Av.fl.one) J J J Fb J (.t (.t .h))) ?_
 refine Ga J (Gn (.t2 4 5) (Ac ?_))
 refine AY J (.cell J .m2 (.inl ⟨(by rw [Av.fl.len];exact C4),J⟩) (.tmp J .n)) ?_
 intro w1 hS
 have hS:=(hS.perm (Ax.perm (.c .h .n))).A5
 have e:=hI11.iP c2
 exact⟨_, .inr ⟨c1,T,hx,g,zs,(by first | (rw [e];done) | (rw [e];rfl)),(by rw [e];exact hI11.hl),(by rw [e];exact hor),J⟩,hS⟩
end Go.Proofs.YtoidpggbbfncpaaGreatDoor
