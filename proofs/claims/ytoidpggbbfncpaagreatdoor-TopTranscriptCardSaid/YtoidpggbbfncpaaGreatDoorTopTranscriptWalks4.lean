/- What the functions that the law TopTranscript reaches compute: walks, part 4. No condition. -/
import Derived.Test.YtoidpggbbfncpaaGreatDoorCards
import Derived.Test.YtoidpggbbfncpaaGreatDoorTie
import Derived.Deep.DeepHandedRow
import Derived.Test.YtoidpggbbfncpaaGreatDoorRows
import Derived.Test.YtoidpggbbfncpaaGreatDoorTopTranscriptEc3
import Derived.Test.YtoidpggbbfncpaaGreatDoorTopTranscriptRa1
import Derived.Test.YtoidpggbbfncpaaGreatDoorTopTranscriptRb1
import Derived.Test.YtoidpggbbfncpaaGreatDoorTopTranscriptRc1
import Derived.Test.YtoidpggbbfncpaaGreatDoorTopTranscriptWalks
import Derived.Test.YtoidpggbbfncpaaGreatDoorTopTranscriptWalks2
import Derived.Test.YtoidpggbbfncpaaGreatDoorTopTranscriptWalks3
set_option linter.unusedSimpArgs false
set_option linter.unusedVariables false
set_option maxRecDepth 100000
set_option maxHeartbeats 1000000
namespace Go.Proofs.YtoidpggbbfncpaaGreatDoor
open Go Go.Ing Go.RowKit Go.ChangeShapes Go.WideShapes Go.ChangeAt
theorem Mp (b:Nat)(T:AE)(g:Hd)(hF:T.Fit):KN Tryz.prog 125 #[.pointer (some ⟨b,0,none⟩)] [Ab.box b 163 (Af.enc ⟨T.w,T.b,g⟩)] (fun v B=>∃ F:AH,F=T.FQ.w∧v = .tuple #[]∧B = [Ab.box b 163 (Af.enc ⟨F,T.b,g⟩)]):=by
 intro w hS0
 have hb:=hF.b
 have hr:=hF.room
 have ho9:=T.K6
 refine Ap _ _ Tryz.func125 J J J (hS0) ?_
 refine CL (Gm J ?_)
 refine Ak J WU (.c J .n) (.c .h .n) (Ib _ _ _ (by first | assumption | omega)) (fun v1 B hv=>?_)
 obtain⟨y2,rfl,y3,rfl⟩:=hv
 refine Gt (Au J Tryz.underlying169 J) (Gm J (Gn (.t4 0 7 8 9) (Ag ?_)))
 refine Bw (.t4 9 0 7 8) ?_
 refine Hw (fun(k:Int) (X:AE)=>0≤k∧T.Cj T.own=X.Cj (T.own.drop k.toNat)∧X.b=T.b∧k≤(T.own.length:Int)) (fun(k:Int) (X:AE)=>((T.own.length:Int) - k).toNat) (fun(k:Int) (X:AE)=> [(9, .int .i64 k)]) (fun(k:Int) (X:AE)=> [Ab.box b 163 (Af.enc ⟨X.w,X.b,g⟩)]) (0) (_) ?_ J J (fun k X hI1=>?_)
 · exact⟨by omega,rfl,rfl,by omega⟩
 obtain⟨hI11,hI12,hI13,hI14⟩:=hI1
 refine Gs (Gt (BA J J) (AR (AA (Aq ?_))))
 refine Gc (fun c1=>?_) (fun c1=>?_)
 ·
  have c1p:=kz c1
  have hx:=AE.Ml (Bh.FC (xs:=T.own) (i:=k.toNat) (by omega))
  refine Aa ?_
  refine AB (.t4 0 7 8 9) ?_
  refine AA (Aq (Ag (Gs ?_)))
  refine Gt (Bz HL (by decide) (Kn.own .m1) J J (by omega) (by omega)) ?_
  refine Gt (DT J A8 (Kn.own .m1) (by omega)) ?_
  refine Ga J (Gn (.t5 0 3 7 8 9) (Gs (Gm J (Gm J (Gt (Bb J) (Gt (Al BB J) (Gt (Al C6 J) ?_)))))))
  refine Gt (AQ Gq J J (by first | omega | (rw [hI13];first | exact hb.1 | exact hb.2) | (dsimp only;omega)) (by first | omega | (rw [hI13];first | exact hb.1 | exact hb.2) | (dsimp only;omega))) ?_
  refine Ga J (Gn (.t5 0 4 7 8 9) (CL (Gm J (Gt (Bb J) (Gt (Al HR J) ?_)))))
  refine Gt (AI J A8 .m0 (((Af.l0.comp AH.l1).comp (AU.arr (n:=9) An.fl (by first | omega | (rw [hI13];first | exact hb.1 | exact hb.2) | (dsimp only;omega)) (by first | omega | (rw [hI13];first | exact hb.1 | exact hb.2) | (dsimp only;omega)))).comp An.l1) J J) ?_
  refine Gt (Ai J J) (Gn (.t6 0 4 7 8 9 23) ?_)
  refine Gc (fun c2=>?_) (fun c2=>?_)
  ·
   have c2p:=kz c2
   refine AJ (Gm J (Gt (Bb J) (Gt (Al Gi J) ?_)))
   refine AT (AL (((Af.l0.comp AH.l1).comp (AU.arr (n:=9) An.fl (by first | omega | (rw [hI13];first | exact hb.1 | exact hb.2) | (dsimp only;omega)) (by first | omega | (rw [hI13];first | exact hb.1 | exact hb.2) | (dsimp only;omega)))).comp An.l4) J J J LG J .h) ?_
   refine Gn (.t5 0 4 7 8 9) ?_
   refine BE (N:=19) [0,0,0,0,8,24,56,4,132,388,1020,2044,4092,8189,16381,32765,65535,131071,262143] mix (by kernel_rfl) J ?_
   refine Pf 0 J (AF J) (Pf 1 J (AF J) (Pf 2 J (AF J) (Pf 3 J (AF J) (Pf 4 J (Bb J) (Pf 5 J (Al Cb J) (Pf 6 J (AI J A8 .m0 Af.l1 J J) (Pf 7 J (Bb J) ?_)))))))
   refine Pf 8 J (Al BB J) (Pf 9 J (Al Bx J) ?_)
   refine Pf 10 J (AQ DI J J (by first | omega | (rw [hI13];first | exact hb.1 | exact hb.2) | (dsimp only;omega)) (by first | omega | (rw [hI13];first | exact hb.1 | exact hb.2) | (dsimp only;omega))) ?_
   refine Pf 11 J (Al DE J) ?_
   refine Pf 12 J (AI J A8 .m0 (((Af.l0.comp AH.l2).comp (AU.arr (n:=6) Am.fl (by first | omega | (rw [hI13];first | exact hb.1 | exact hb.2) | (dsimp only;omega)) (by first | omega | (rw [hI13];first | exact hb.1 | exact hb.2) | (dsimp only;omega)))).comp Am.l3) J J) ?_
   refine Pf 13 J (Bb J) (Pf 14 J (Al Fm J) ?_)
   refine Aj 15 J (by kernel_rfl) ?_
   refine AT (AL (((Af.l0.comp AH.l1).comp (AU.arr (n:=9) An.fl (by first | omega | (rw [hI13];first | exact hb.1 | exact hb.2) | (dsimp only;omega)) (by first | omega | (rw [hI13];first | exact hb.1 | exact hb.2) | (dsimp only;omega)))).comp An.l2) J J J DO J .h) ?_
   refine BO J ⟨?_,?_⟩
   · exact(Pk (Pk (Pk (Pk (Pk (Pk (Pk (Pk (Pk (Pk (Pk (Pk (Pk (Po J (AF J) J J (Pk As)))))))))))))))
   refine Pf 16 J (Bb J) (Pf 17 J (Al DX J) ?_)
   refine Aj 18 J (by kernel_rfl) ?_
   refine AT (AL (((Af.l0.comp AH.l1).comp (AU.arr (n:=9) An.fl (by first | omega | (rw [hI13];first | exact hb.1 | exact hb.2) | (dsimp only;omega)) (by first | omega | (rw [hI13];first | exact hb.1 | exact hb.2) | (dsimp only;omega)))).comp An.l3) J J J DO J .h) ?_
   refine BO J ⟨?_,?_⟩
   · exact(Pk (Pk (Pk (Pk (Pk (Pk (Pk (Pk (Pk (Pk (Pk (Pk (Pk (Pk (Pk (Pk (Pk As)))))))))))))))))
   refine A2 (by kernel_rfl) ?_
   refine AB (.t4 0 7 8 9) ?_
   refine AV (AA ?_)
   refine Gw (fun _=> .h) (congrArg (fun q=>Af.enc ⟨q,_,_⟩) (AE.Xk X hx.1 hx.2 c2)) ?_
   refine AJ ?_
   refine Gt (Ay J J (IntWalk.i64_in _ (by first | omega | (rw [hI13];first | exact hb.1 | exact hb.2) | (dsimp only;omega)))) ?_
   refine Gm J ?_
   refine AR (AB (.t4 0 7 8 9) ?_)
   refine Dt (k+1) _ ?_ ?_ (.t4 9 0 7 8) (.refl _)
   · exact⟨by omega,by rw [hI12,AE.Mj hI11 (by omega)],hI13,by omega⟩
   · omega
  have c2p:=kz c2
  refine Aa ?_
  refine AB (.t5 0 4 7 8 9) ?_
  refine AA ?_
  refine BE (N:=19) [0,0,0,0,8,24,56,4,132,388,1020,2044,4092,8189,16381,32765,65535,131071,262143] mix (by kernel_rfl) J ?_
  refine Pf 0 J (AF J) (Pf 1 J (AF J) (Pf 2 J (AF J) (Pf 3 J (AF J) (Pf 4 J (Bb J) (Pf 5 J (Al Cb J) (Pf 6 J (AI J A8 .m0 Af.l1 J J) (Pf 7 J (Bb J) ?_)))))))
  refine Pf 8 J (Al BB J) (Pf 9 J (Al Bx J) ?_)
  refine Pf 10 J (AQ DI J J (by first | omega | (rw [hI13];first | exact hb.1 | exact hb.2) | (dsimp only;omega)) (by first | omega | (rw [hI13];first | exact hb.1 | exact hb.2) | (dsimp only;omega))) ?_
  refine Pf 11 J (Al DE J) ?_
  refine Pf 12 J (AI J A8 .m0 (((Af.l0.comp AH.l2).comp (AU.arr (n:=6) Am.fl (by first | omega | (rw [hI13];first | exact hb.1 | exact hb.2) | (dsimp only;omega)) (by first | omega | (rw [hI13];first | exact hb.1 | exact hb.2) | (dsimp only;omega)))).comp Am.l3) J J) ?_
  refine Pf 13 J (Bb J) (Pf 14 J (Al Fm J) ?_)
  refine Aj 15 J (by kernel_rfl) ?_
  refine AT (AL (((Af.l0.comp AH.l1).comp (AU.arr (n:=9) An.fl (by first | omega | (rw [hI13];first | exact hb.1 | exact hb.2) | (dsimp only;omega)) (by first | omega | (rw [hI13];first | exact hb.1 | exact hb.2) | (dsimp only;omega)))).comp An.l2) J J J DO J .h) ?_
  refine BO J ⟨?_,?_⟩
  · exact(Pk (Pk (Pk (Pk (Pk (Pk (Pk (Pk (Pk (Pk (Pk (Pk (Pk (Po J (AF J) J J (Pk As)))))))))))))))
  refine Pf 16 J (Bb J) (Pf 17 J (Al DX J) ?_)
  refine Aj 18 J (by kernel_rfl) ?_
  refine AT (AL (((Af.l0.comp AH.l1).comp (AU.arr (n:=9) An.fl (by first | omega | (rw [hI13];first | exact hb.1 | exact hb.2) | (dsimp only;omega)) (by first | omega | (rw [hI13];first | exact hb.1 | exact hb.2) | (dsimp only;omega)))).comp An.l3) J J J DO J .h) ?_
  refine BO J ⟨?_,?_⟩
  · exact(Pk (Pk (Pk (Pk (Pk (Pk (Pk (Pk (Pk (Pk (Pk (Pk (Pk (Pk (Pk (Pk (Pk As)))))))))))))))))
  refine A2 (by kernel_rfl) ?_
  refine AB (.t4 0 7 8 9) ?_
  refine AV (AA ?_)
  refine Gw (fun _=> .h) (congrArg (fun q=>Af.enc ⟨q,_,_⟩) (AE.XR X hx.1 hx.2 c2)) ?_
  refine AJ ?_
  refine Gt (Ay J J (IntWalk.i64_in _ (by first | omega | (rw [hI13];first | exact hb.1 | exact hb.2) | (dsimp only;omega)))) ?_
  refine Gm J ?_
  refine AR (AB (.t4 0 7 8 9) ?_)
  refine Dt (k+1) _ ?_ ?_ (.t4 9 0 7 8) (.refl _)
  · exact⟨by omega,by rw [hI12,AE.Mj hI11 (by omega)],hI13,by omega⟩
  · omega
 have c1p:=kz c1
 obtain rfl:k=(T.own.length:Int):=by omega
 rw [AE.KX] at hI12
 have hY:X=T.Cj T.own:=hI12.symm
 refine Bg (AW (AW (Ah ?_)))
 refine AB (.t1 0) ?_
 refine AA (CL (Gm J (AR (AA (Ag ?_)))))
 refine Bw (.t2 45 0) ?_
 refine Hw (fun(k:Int) (Y:AE)=>0≤k∧k≤6∧Y=(T.Cj T.own).Dj k.toNat∧Y.b=T.b) (fun(k:Int) (Y:AE)=>(6 - k).toNat) (fun(k:Int) (Y:AE)=> [(45, .int .i64 k)]) (fun(k:Int) (Y:AE)=> [Ab.box b 163 (Af.enc ⟨Y.w,Y.b,g⟩)]) (0) (_) ?_ J J (fun k Y hI2=>?_)
 · exact⟨by omega,by omega,hY,hI13⟩
 obtain⟨hI21,hI22,hI23,hI24⟩:=hI2
 refine Gs (Gt (BA J J) (AR (AA (Aq ?_))))
 refine Gc (fun c3=>?_) (fun c3=>?_)
 ·
  have c3p:=kz c3
  refine Aa ?_
  refine AB (.t2 0 45) ?_
  refine AA (Aq (Ag (Gs (Gm J (Ga J (Gn (.t3 0 5 45) (Aq ?_)))))))
  refine BE (N:=14) [0,0,1,5,13,31,63,127,0,256,768,1792,3840,8191] mix (by kernel_rfl) J ?_
  refine Pf 0 J (AF J) (Pf 1 J (AF J) (Pf 2 J (Bb J) (Pf 3 J (Al BB J) (Pf 4 J (Al Bx J) ?_))))
  refine Pf 5 J (AQ DI J J (by first | omega | (rw [hI13];first | exact hb.1 | exact hb.2) | (dsimp only;omega)) (by first | omega | (rw [hI13];first | exact hb.1 | exact hb.2) | (dsimp only;omega))) ?_
  refine Pf 6 J (Al Gf J) ?_
  refine Pf 7 J (AI J A8 .m0 (((Af.l0.comp AH.l2).comp (AU.arr (n:=6) Am.fl (by first | omega | (rw [hI13];first | exact hb.1 | exact hb.2) | (dsimp only;omega)) (by first | omega | (rw [hI13];first | exact hb.1 | exact hb.2) | (dsimp only;omega)))).comp Am.l5) J J) ?_
  refine Pf 8 J (AF J) (Pf 9 J (Bb J) (Pf 10 J (Al Cb J) (Pf 11 J (AI J A8 .m0 Af.l1 J J) ?_)))
  refine Pf 12 J (Ay J J (IntWalk.i64_in _ (by first | omega | (rw [hI13];first | exact hb.1 | exact hb.2) | (dsimp only;omega)))) ?_
  refine Pf 13 J (Ai J J) ?_
  refine A2 (by kernel_rfl) ?_
  refine AB (.t4 0 5 45 61) ?_
  refine AA ?_
  refine Gc (fun c4=>?_) (fun c4=>?_)
  ·
   have c4p:=kz c4
   have hcb:decide ((Y.w.AO.at k).B7=(T.Cj T.own).b+1)=true:=by rw [(AE.JT T.own T).1,← hI24];exact c4
   refine AJ (Gm J (Gm J (Gt (Bb J) (Gt (Al BB J) (Gt (Al Bx J) ?_)))))
   refine Gt (AQ DI J J (by first | omega | (rw [hI13];first | exact hb.1 | exact hb.2) | (dsimp only;omega)) (by first | omega | (rw [hI13];first | exact hb.1 | exact hb.2) | (dsimp only;omega))) ?_
   refine Gt (Al Gf J) ?_
   refine AT (AL (((Af.l0.comp AH.l2).comp (AU.arr (n:=6) Am.fl (by first | omega | (rw [hI13];first | exact hb.1 | exact hb.2) | (dsimp only;omega)) (by first | omega | (rw [hI13];first | exact hb.1 | exact hb.2) | (dsimp only;omega)))).comp Am.l5) J J J DO J .h) ?_
   refine AR (AB (.t2 0 45) ?_)
   refine AV (AA (AJ ?_))
   refine Gt (Ay J J (IntWalk.i64_in _ (by first | omega | (rw [hI13];first | exact hb.1 | exact hb.2) | (dsimp only;omega)))) ?_
   refine Gm J ?_
   refine AR (AB (.t2 0 45) ?_)
   refine Dt (k+1) (Y.Cq k 0) ?_ ?_ (.t2 45 0) (.refl _)
   · exact⟨by omega,by omega,by rw [AE.QI hI21,← hI23,BG hcb],hI24⟩
   · omega
  have c4p:=kz c4
  have hcb:decide ((Y.w.AO.at k).B7=(T.Cj T.own).b+1)=false:=by rw [(AE.JT T.own T).1,← hI24];exact c4
  refine Aa ?_
  refine AB (.t2 0 45) ?_
  refine AV (AA (AJ ?_))
  refine Gt (Ay J J (IntWalk.i64_in _ (by first | omega | (rw [hI13];first | exact hb.1 | exact hb.2) | (dsimp only;omega)))) ?_
  refine Gm J ?_
  refine AR (AB (.t2 0 45) ?_)
  refine Dt (k+1) (Y) ?_ ?_ (.t2 45 0) (.refl _)
  · exact⟨by omega,by omega,by rw [AE.QI hI21,← hI23,AX hcb],hI24⟩
  · omega
 have c3p:=kz c3
 obtain rfl:k=6:=by omega
 refine Bg (AW (AW (Ah ?_)))
 refine AB (.t1 0) ?_
 refine AA ?_
 refine BE (N:=11) [0,0,2,6,14,1,33,97,255,511,1023] mix (by kernel_rfl) J ?_
 refine Pf 0 J (AF J) (Pf 1 J (AF J) (Pf 2 J (Bb J) (Pf 3 J (Al Cb J) (Pf 4 J (AI J A8 .m0 Af.l1 J J) (Pf 5 J (Bb J) (Pf 6 J (Al BB J) (Pf 7 J (Al Bx J) ?_)))))))
 refine Pf 8 J (AQ DI J J (by first | omega | (rw [hI13];first | exact hb.1 | exact hb.2) | (dsimp only;omega)) (by first | omega | (rw [hI13];first | exact hb.1 | exact hb.2) | (dsimp only;omega))) ?_
 refine Pf 9 J (Al Gf J) ?_
 refine Aj 10 J (by kernel_rfl) ?_
 refine AT (AL (((Af.l0.comp AH.l2).comp (AU.arr (n:=6) Am.fl (by first | omega | (rw [hI13];first | exact hb.1 | exact hb.2) | (dsimp only;omega)) (by first | omega | (rw [hI13];first | exact hb.1 | exact hb.2) | (dsimp only;omega)))).comp Am.l5) J J J DO J .h) ?_
 refine BO J ⟨?_,?_⟩
 · exact(Pk (Pk (Pk (Pk (Pk (Pk (Pk (Pk (Pk (Pk As))))))))))
 refine A2 (by kernel_rfl) ?_
 refine Bs J .n ?_
 intro w1 hS
 have hS:=(hS.perm (Ax.perm (.c .h .n))).A5
 have hq:T.FQ=Y.Cq Y.b 0:=by rw [hI24,hI23];unfold AE.FQ;rfl
 exact⟨_,⟨_,J,J,by rw [hq,← hI24];rfl⟩,hS⟩
theorem R2 (b:Nat)(T:AE)(g:Hd)(hg:g.len=T.out.length)(hF:T.Fit)(hn:T.out.length≤90000):KN Tryz.prog 103 #[.pointer (some ⟨b,0,none⟩)] [Ab.box b 163 (Af.enc ⟨T.w,T.b,g⟩),Ab.own g 56 16 (T.out.flatMap Ing.Event.enc)] (fun v B=>∃ g':Hd,v = .tuple #[]∧g'.len=(T.GY).out.length∧B = [Ab.box b 163 (Af.enc ⟨(T.GY).w,(T.GY).b,g'⟩),Ab.own g' 56 16 ((T.GY).out.flatMap Ing.Event.enc)]):=by
 intro w hS0
 have hb:=hF.b
 have hr:=hF.room
 refine Ap _ _ Tryz.func103 J J J (hS0) ?_
 refine Gs (Gm J ?_)
 refine Ak J Wv (.c J (.c J .n)) (.c .h (.c .h .n)) (G4 _ T _ 18 hg hb (by omega)) (fun v1 B hv=>?_)
 obtain⟨y2,rfl,y3,rfl⟩:=hv
 refine Gn (.t1 0) (Gs (Gm J ?_))
 refine Ak J dD (.c J .n) (.c .h .n) (Mp _ (T.kind 18) _ (hF.Ew J J)) (fun v4 B hv=>?_)
 obtain⟨y5,y6,rfl,rfl⟩:=hv
 refine Gn (.t1 0) ?_
 refine BE (N:=11) [0,0,2,6,14,0,1,65,193,511,1023] mix (by kernel_rfl) J ?_
 refine Pf 0 J (AF J) (Pf 1 J (AF J) (Pf 2 J (Bb J) (Pf 3 J (Al Cb J) (Pf 4 J (AI J A8 .m0 Af.l1 J J) (Pf 5 J (BF Yk MX J .nil) (Pf 6 J (Bb J) (Pf 7 J (Al BB J) ?_)))))))
 refine Pf 8 J (Al Bx J) ?_
 refine Pf 9 J (AQ DI J J (by first | exact hb.1 | exact hb.2 | omega | (dsimp only;omega)) (by first | exact hb.1 | exact hb.2 | omega | (dsimp only;omega))) ?_
 refine Aj 10 J (by kernel_rfl) ?_
 refine AT (AL ((Af.l0.comp AH.l2).comp (AU.arr (n:=6) Am.fl (by first | exact hb.1 | exact hb.2 | omega | (dsimp only;omega)) (by first | exact hb.1 | exact hb.2 | omega | (dsimp only;omega)))) J J J LH J .h) ?_
 refine BO J ⟨?_,?_⟩
 · exact(Pk (Pk (Pk (Pk (Pk (Pk (Pk (Pk (Pk (Pk As))))))))))
 refine A2 (by kernel_rfl) ?_
 refine Bs J .n ?_
 intro w1 hS
 have hS:=(hS.perm (Ax.perm (.c .h (.c .h .n)))).A5
 obtain⟨hf1,hf2,hf3⟩:=T.PV
 refine⟨_,⟨?gq,J,?hl,?hB⟩,hS⟩
 case hB=>rw [hf1,hf2,hf3,← y6]
 case hl=>rw [hf2];exact y3
theorem JC (b:Nat)(T:AE)(g:Hd)(u:Ad)(hg:g.len=T.out.length)(hF:T.Fit)(hu:u.length≤5000000)(hn:T.out.length≤99000):FO Tryz.prog 131 #[.pointer (some ⟨b,0,none⟩),BW u] [Ab.box b 163 (Af.enc ⟨T.w,T.b,g⟩),Ab.own g 56 16 (T.out.flatMap Ing.Event.enc)] (fun w=>(HP 7 w∧7 ∉ Ch [Ab.box b 163 (Af.enc ⟨T.w,T.b,g⟩),Ab.own g 56 16 (T.out.flatMap Ing.Event.enc)])∧(HP 8 w∧8 ∉ Ch [Ab.box b 163 (Af.enc ⟨T.w,T.b,g⟩),Ab.own g 56 16 (T.out.flatMap Ing.Event.enc)])) (fun v B=>∃ g':Hd,v = .tuple #[.int .i64 (T.A9 u).2.1, .bool (T.A9 u).2.2]∧g'.len=((T.A9 u).1).out.length∧B = [Ab.box b 163 (Af.enc ⟨((T.A9 u).1).w,((T.A9 u).1).b,g'⟩),Ab.own g' 56 16 (((T.A9 u).1).out.flatMap Ing.Event.enc)]):=by
 intro w hS0 hH
 obtain⟨⟨gl0,gm0⟩,⟨gl1,gm1⟩⟩:=hH
 have hb:=hF.b
 have hr:=hF.room
 refine Ap _ _ Tryz.func131 J J J (hS0) ?_
 refine Gs (Ga J (Ga J (Gn (.t2 0 1) (Gs (Gm J ?_)))))
 refine BC J Wu (.c J .n) (fun w hS=>Fg _ (by first | assumption | omega) w (gl0.stM gm0 hS) (gl1.stM gm1 hS)) ?_
 refine Gm J (Gt (AM J J) (Gt (AM J J) (Gt (AM J J) (Gt (AM J J) (Ga J (Ga J (Ga J ?_)))))))
 refine Ga J (Gn (.t5 0 6 7 8 9) (CL (Gm J (Gt (Ai J J) (Gm J (Bp 20 J J (fun q=>AF J) (Bp 20 J J (fun q=>BZ (Bo J q)) ?_)))))))
 refine Gt (BQ J J (fun h=>h)) (Gn (.t4 0 6 7 23) ?_)
 refine Gc (fun c1=>?_) (fun c1=>?_)
 ·
  have c1p:=kz c1
  have hnf:=Words.Xa u (of_decide_eq_true (Bool.and_eq_true_iff.1 c1).1)
  refine Gs (Gm J (Gn (.t4 0 6 7 24) (Ag ?_)))
  refine Bw (.t4 6 24 0 7) ?_
  refine Hw (fun(k:Int) (n:Int)=>0≤k∧k≤6∧T.JZ (Words.Ee u).2.1 6 (Words.Ee u).1=T.JZ (Words.Ee u).2.1 (6 - k).toNat n∧-k≤n∧n≤99) (fun(k:Int) (n:Int)=>(6 - k).toNat) (fun(k:Int) (n:Int)=> [(6, .int .i64 n),(24, .int .i64 k)]) (fun(k:Int) (n:Int)=> []) (0) (_) ?_ J J (fun k n hI1=>?_)
  · exact⟨by omega,by omega,rfl,by omega,by omega⟩
  obtain⟨hI11,hI12,hI13,hI14,hI15⟩:=hI1
  refine Gs (Gt (BA J J) (AR (AA (Aq ?_))))
  refine Gc (fun c2=>?_) (fun c2=>?_)
  ·
   have c2p:=kz c2
   refine Aa ?_
   refine AB (.t4 0 6 7 24) ?_
   refine AA (Aq (Ag (Gs (Gm J (Ga J (Gn (.t5 0 6 7 10 24) (Aq ?_)))))))
   refine Aq ?_
   refine BE (N:=31) [0,0,2,6,14,31,63,127,127,255,767,1791,4095,8191,16383,127,65535,131071,262143,524287,1048575,2097151,4194303,524287,8912895,25690111,59244543,524287,268435455,536870911,1073741823] mix (by kernel_rfl) J ?_
   refine Pf 0 J (AF J) (Pf 1 J (AF J) (Pf 2 J (Bb J) (Pf 3 J (Al Cb J) (Pf 4 J (AI J A8 .m0 Af.l1 J J) (Pf 5 J (Ai J J) (Pf 6 J (AF J) (IN 7 33 J J J (fun q=>AF J) ?_)))))))
   refine IN 8 33 J J J (fun q=>AF J) (IN 9 33 J J J (fun q=>Bb (cF J q)) (IN 10 33 J J J (fun q=>Al BB (cF J q)) (IN 11 33 J J J (fun q=>Al Bx (cF J q)) ?_)))
   refine BI 12 J J (by kernel_rfl) (Hf (t:=33) J J (fun q=>by have q1:=q;(try simp at q1);exact F6 (AQ DI (cF rfl q) (cF rfl q) (by first | omega | exact hb.1 | exact hb.2 | (dsimp only;omega)) (by first | omega | exact hb.1 | exact hb.2 | (dsimp only;omega))))) ?_
   refine IN 13 33 J J J (fun q=>Al Li (cF J q)) ?_
   refine BI 14 J J (by kernel_rfl) (Hf (t:=33) J J (fun q=>by have q1:=q;(try simp at q1);exact F6 (AI (cF rfl q) CO .m0 (((Af.l0.comp AH.l2).comp (AU.ar (n:=6) Am.fl (by first | omega | exact hb | (dsimp only;omega)))).comp Am.l0) rfl rfl))) ?_
   refine IN 15 33 J J J (fun q=>AF J) (IN 16 33 J J J (fun q=>DK (cF J q) (cF J q)) ?_)
   refine Pf 17 J (Ba J J (fun h=>by rw [h];rfl)) ?_
   refine Pf 18 J (AF J) (IN 19 45 J J J (fun q=>AF J) (IN 20 45 J J J (fun q=>Bb (cF J q)) (IN 21 45 J J J (fun q=>Al BB (cF J q)) (IN 22 45 J J J (fun q=>AZ (cF J q) Bf .m0 Af.l0 J) (IN 23 45 J J J (fun q=>AF J) (IN 24 45 J J J (fun q=>Bb (cF J q)) (IN 25 45 J J J (fun q=>Al Cb (cF J q)) ?_)))))))
   refine IN 26 45 J J J (fun q=>AI (cF J q) A8 .m0 Af.l1 J J) (IN 27 45 J J J (fun q=>AF J) ?_)
   refine BI 28 J J (by kernel_rfl) (Hf (t:=45) J J (fun q=>by have q1:=q;(try simp at q1);exact J4 (D0 QV (.c (cF rfl q) (.c (cF rfl q) (.c (cF rfl q) .n))) (fun w hS=>Dd _ _ _ w)))) ?_
   refine IN 29 45 J J J (fun q=>BZ (cF J q)) ?_
   refine Pf 30 J (Ba J J (fun h=>by rw [h];rfl)) ?_
   refine A2 (by kernel_rfl) ?_
   refine AB (.t6 0 6 7 10 24 57) ?_
   refine AA ?_
   refine Gc (fun c3=>?_) (fun c3=>?_)
   ·
    have c3p:=kz c3
    refine Bg (AW (Ah ?_))
    refine AB (.t4 0 6 7 24) ?_
    refine AA (AJ ?_)
    refine Gt (Ay J J (IntWalk.i64_in _ (by first | omega | exact hb.1 | exact hb.2 | (dsimp only;omega)))) ?_
    refine Gm J ?_
    refine AR (AB (.t4 0 6 7 24) ?_)
    refine Dt (k+1) (n) ?_ ?_ (.t4 6 24 0 7) (.refl _)
    · exact⟨by omega,by omega,by rw [hI13,AE.Ln hI11 (by omega),BG c3],by omega,by omega⟩
    · omega
   have c3p:=kz c3
   refine Aa ?_
   refine AB (.t5 0 6 7 10 24) ?_
   refine AA (Gs (Gm J ?_))
   refine Gt (FT J J (IntWalk.i64_in _ (by first | omega | exact hb.1 | exact hb.2 | (dsimp only;omega)))) ?_
   refine Ga J (Gn (.t5 0 6 7 10 24) (Gs (Gm J (Gt (Ai J J) (Gn (.t6 0 6 7 10 24 61) ?_)))))
   refine Gc (fun c4=>?_) (fun c4=>?_)
   ·
    have c4p:=kz c4
    refine Gs (Gm J (Ga J (Ga J (Gn (.t2 4 5) (Ac (AS (AD ?_)))))))
    refine AD (AS (AD ?_))
    refine AY J (.tmp J (.tmp J .n)) ?_
    intro w1 hS
    have hS:=(hS.perm (Ax.perm (.c .h (.c .h .n)))).A5
    have hs:T.JZ (Words.Ee u).2.1 6 (Words.Ee u).1=some k:=by rw [hI13,AE.Ln hI11 (by omega),AX c3,BG c4]
    have hq:T.A9 u=(T,k,true):=(show T.A9 u=_ from BG c1).trans (by simp only [hs])
    refine⟨_,⟨?gq1,?hv1,?hl1,?hB1⟩,hS⟩
    case hB1=>rw [hq];(try rfl)
    case hv1=>rw [hq];(try rfl)
    case hl1=>rw [hq];assumption
   have c4p:=kz c4
   refine Aa ?_
   refine AB (.t4 0 6 7 24) ?_
   refine AV (AA (AJ ?_))
   refine Gt (Ay J J (IntWalk.i64_in _ (by first | omega | exact hb.1 | exact hb.2 | (dsimp only;omega)))) ?_
   refine Gm J ?_
   refine AR (AB (.t4 0 6 7 24) ?_)
   refine Dt (k+1) (n - 1) ?_ ?_ (.t4 6 24 0 7) (.refl _)
   · exact⟨by omega,by omega,by rw [hI13,AE.Ln hI11 (by omega),AX c3,AX c4],by omega,by omega⟩
   · omega
  have c2p:=kz c2
  obtain rfl:k=6:=by omega
  refine Bg (AW (AW (Ah ?_)))
  refine AB (.t1 0) ?_
  refine AA (Gs (Gm J ?_))
  refine Ak J EV (.c J (.c J .n)) (.c .h (.c .h .n)) (Bi _ _ _ _ hg hb (by omega)) (fun v1 B hv=>?_)
  obtain⟨y2,rfl,y3,rfl⟩:=hv
  refine Gn (.nil _) (Gs (Ga J (Ga J (AR (AA (Ac ?_))))))
  refine AY J (.tmp J (.tmp J .n)) ?_
  intro w1 hS
  have hS:=(hS.perm (Ax.perm (.c .h (.c .h .n)))).A5
  have hs:T.JZ (Words.Ee u).2.1 6 (Words.Ee u).1=none:=by rw [hI13];rfl
  have hq:T.A9 u=(T.tell AE.Lg,0,false):=(show T.A9 u=_ from BG c1).trans (by simp only [hs])
  refine⟨_,⟨?gq2,?hv2,?hl2,?hB2⟩,hS⟩
  case hB2=>rw [hq];(try rfl)
  case hv2=>rw [hq];(try rfl)
  case hl2=>rw [hq];assumption
 have c1p:=kz c1
 refine Aa ?_
 refine AB (.t1 0) ?_
 refine AA (Gs (Gm J ?_))
 refine Ak J EV (.c J (.c J .n)) (.c .h (.c .h .n)) (Bi _ _ _ _ hg hb (by omega)) (fun v4 B hv=>?_)
 obtain⟨y5,rfl,y6,rfl⟩:=hv
 refine Gn (.nil _) (Gs (Ga J (Ga J (AR (AA (Ac ?_))))))
 refine AY J (.tmp J (.tmp J .n)) ?_
 intro w1 hS
 have hS:=(hS.perm (Ax.perm (.c .h (.c .h .n)))).A5
 have hq:T.A9 u=(T.tell AE.Lg,0,false):=AX c1
 refine⟨_,⟨?gq3,?hv3,?hl3,?hB3⟩,hS⟩
 case hB3=>rw [hq];(try rfl)
 case hv3=>rw [hq];(try rfl)
 case hl3=>rw [hq];assumption
theorem Qk (b:Nat)(T:AE)(g:Hd)(o:Order)(hg:g.len=T.out.length)(hF:T.Fit)(hm:o.name.length≤5000000)(hn:T.out.length≤90000):FO Tryz.prog 104 #[.pointer (some ⟨b,0,none⟩), .agg o.enc.toArray] [Ab.box b 163 (Af.enc ⟨T.w,T.b,g⟩),Ab.own g 56 16 (T.out.flatMap Ing.Event.enc)] (fun w=>(HP 7 w∧7 ∉ Ch [Ab.box b 163 (Af.enc ⟨T.w,T.b,g⟩),Ab.own g 56 16 (T.out.flatMap Ing.Event.enc)])∧(HP 8 w∧8 ∉ Ch [Ab.box b 163 (Af.enc ⟨T.w,T.b,g⟩),Ab.own g 56 16 (T.out.flatMap Ing.Event.enc)])) (fun v B=>∃ g':Hd,v = .tuple #[]∧g'.len=(T.FK o).out.length∧B = [Ab.box b 163 (Af.enc ⟨(T.FK o).w,(T.FK o).b,g'⟩),Ab.own g' 56 16 ((T.FK o).out.flatMap Ing.Event.enc)]):=by
 intro w hS0 hH
 obtain⟨⟨gl0,gm0⟩,⟨gl1,gm1⟩⟩:=hH
 have hb:=hF.b
 have hr:=hF.room
 have hsr:=T.My (if (!decide (o.nth=1) || o.Bq)=true then [] else o.name)
 have hsb:0≤(T.A9 (if (!decide (o.nth=1) || o.Bq)=true then [] else o.name)).1.b∧(T.A9 (if (!decide (o.nth=1) || o.Bq)=true then [] else o.name)).1.b < 6:=by rw [(T.Jy _).2];exact hb
 refine Ap _ _ Tryz.func104 J J J (hS0) ?_
 refine Gs ?_
 refine CB J J J (fun b1=>?_)
 refine Gn (.t2 0 3) (Gs (Gt (Al GR J) (Gt (AI J CO .m0 Order.l3 J J) (Ga J (Gn (.t3 0 3 4) (CL (Gt (Al G2 J) ?_)))))))
 refine Gt (AI J A8 .m0 Order.l1 J J) (Gt (Cm J J) (Gm J (Bj 12 J J (fun q=>Al Hn J) (Bj 12 J J (fun q=>AI (cF J q) D3 .m0 Order.l2 J J) ?_))))
 refine Gt (Ba J J (fun h=>by rw [h];rfl)) ?_
 refine Gn (.t3 0 4 15) ?_
 refine R7 (BW) (s:=(if (!decide (o.nth=1) || o.Bq)=true then [] else o.name)) J J J J J ?_
 refine AB (.t2 0 4) ?_
 refine AA (Gs (Gm J (Gm J ?_)))
 refine BL J dF (.c J (.c J .n)) (.c (.t .h) (.c (.t .h) .n)) (JC _ T _ _ hg hF (by split<;>(try simp)<;>omega) (by omega)) (fun w hS=>⟨gl0.pull gm0 hS (.c (.t .h) (.c (.t .h) .n)),gl1.pull gm1 hS (.c (.t .h) (.c (.t .h) .n))⟩) (fun v1 B hv=>?_)
 obtain⟨y2,rfl,y3,rfl⟩:=hv
 refine Gm J (Gt (AM J J) (Gt (AM J J) (Ga J (Ga J (Gn (.t3 0 5 6) (CL (Gm J ?_)))))))
 refine Gt (BZ J) (Gn (.t3 0 5 23) ?_)
 refine Gc (fun c1=>?_) (fun c1=>?_)
 ·
  have c1p:=kz c1
  refine Ac (AD ?_)
  refine AY J .n ?_
  intro w1 hS
  have hS:=(hS.perm (Ax.perm (.c .h (.c .h .n)))).A5
  have hq:T.FK o=_:=BG c1
  refine⟨_,⟨?gq1,J,?hl1,?hB1⟩,hS⟩
  case hB1=>rw [hq];(try rfl)
  case hl1=>rw [hq];assumption
 have c1p:=kz c1
 refine Aa ?_
 refine AB (.t2 0 5) ?_
 refine AA (Aq ?_)
 refine BE (N:=13) [0,0,2,6,14,0,32,1,129,385,1023,2047,4095] mix (by kernel_rfl) J ?_
 refine Pf 0 J (AF J) (Pf 1 J (AF J) (Pf 2 J (Bb J) (Pf 3 J (Al Cb J) (Pf 4 J (AI J A8 .m0 Af.l1 J J) (Pf 5 J (AF J) ?_)))))
 refine Pf 6 J (Ay J J (IntWalk.i64_in _ (by first | omega | exact hsb.1 | exact hsb.2 | (dsimp only;omega)))) ?_
 refine Pf 7 J (Bb J) (Pf 8 J (Al BB J) (Pf 9 J (Al Bx J) ?_))
 refine Pf 10 J (AQ DI J J (by first | omega | exact hsb.1 | exact hsb.2 | (dsimp only;omega)) (by first | omega | exact hsb.1 | exact hsb.2 | (dsimp only;omega))) ?_
 refine Pf 11 J (Al Gf J) ?_
 refine Aj 12 J (by kernel_rfl) ?_
 refine AT (AL (((Af.l0.comp AH.l2).comp (AU.ar (n:=6) Am.fl (by first | omega | exact hsb | (dsimp only;omega)))).comp Am.l5) J J J DO J .h) ?_
 refine BO J ⟨?_,?_⟩
 · exact(Pk (Pk (Pk (Pk (Pk (Pk (Pk (Pk (Pk (Pk (Pk (Pk As))))))))))))
 refine A2 (by kernel_rfl) ?_
 refine AB (.t2 0 5) ?_
 refine AA (CL (Gm J (Gm J (Gt (Bb J) (Gt (Al BB J) (Gt (Al Bx J) ?_))))))
 refine Gt (AQ DI J J (by first | omega | exact hsb.1 | exact hsb.2 | (dsimp only;omega)) (by first | omega | exact hsb.1 | exact hsb.2 | (dsimp only;omega))) ?_
 refine Gt (Al Gf J) ?_
 refine Gt (AI J A8 .m0 (((Af.l0.comp AH.l2).comp (AU.ar (n:=6) Am.fl (by first | omega | exact hsb | (dsimp only;omega)))).comp Am.l5) J J) ?_
 refine Gt (Ai J J) (Gn (.t3 0 5 44) ?_)
 refine Gc (fun c2=>?_) (fun c2=>?_)
 ·
  have c2p:=kz c2
  refine BE (N:=13) [0,0,0,4,12,28,60,1,129,385,1023,2047,4095] mix (by kernel_rfl) J ?_
  refine Pf 0 J (AF J) (Pf 1 J (AF J) (Pf 2 J (AF J) (Pf 3 J (Bb J) (Pf 4 J (Al Cb J) (Pf 5 J (AI J A8 .m0 Af.l1 J J) ?_)))))
  refine Pf 6 J (Ay J J (IntWalk.i64_in _ (by first | omega | exact hsb.1 | exact hsb.2 | (dsimp only;omega)))) ?_
  refine Pf 7 J (Bb J) (Pf 8 J (Al BB J) (Pf 9 J (Al Bx J) ?_))
  refine Pf 10 J (AQ DI J J (by first | omega | exact hsb.1 | exact hsb.2 | (dsimp only;omega)) (by first | omega | exact hsb.1 | exact hsb.2 | (dsimp only;omega))) ?_
  refine Pf 11 J (Al Gf J) ?_
  refine Aj 12 J (by kernel_rfl) ?_
  refine AT (AL (((Af.l0.comp AH.l2).comp (AU.ar (n:=6) Am.fl (by first | omega | exact hsb | (dsimp only;omega)))).comp Am.l5) J J J DO J .h) ?_
  refine BO J ⟨?_,?_⟩
  · exact(Pk (Pk (Pk (Pk (Pk (Pk (Pk (Pk (Pk (Pk (Pk (Pk As))))))))))))
  refine A2 (by kernel_rfl) ?_
  refine AB (.t1 0) ?_
  refine AA (AJ (Gm J ?_))
  refine Ak J EV (.c J (.c J .n)) (.c .h (.c .h .n)) (Bi _ (AE.Cq (AE.Cq (T.A9 (if (!decide (o.nth=1) || o.Bq)=true then [] else o.name)).1 (T.A9 (if (!decide (o.nth=1) || o.Bq)=true then [] else o.name)).1.b ((T.A9 (if (!decide (o.nth=1) || o.Bq)=true then [] else o.name)).2.1+1)) (T.A9 (if (!decide (o.nth=1) || o.Bq)=true then [] else o.name)).2.1 ((T.A9 (if (!decide (o.nth=1) || o.Bq)=true then [] else o.name)).1.b+1)) _ _ (by assumption) hsb (by show(T.A9 (if (!decide (o.nth=1) || o.Bq)=true then [] else o.name)).1.out.length≤100000;have:=T.Hj (if (!decide (o.nth=1) || o.Bq)=true then [] else o.name);omega)) (fun v4 B hv=>?_)
  obtain⟨y5,rfl,y6,rfl⟩:=hv
  refine AR ?_
  refine Bs J .n ?_
  intro w1 hS
  have hS:=(hS.perm (Ax.perm (.c .h (.c .h .n)))).A5
  have hq:T.FK o=_:=(show T.FK o=_ from AX c1).trans (congrArg (fun q=>AE.tell q AE.NF) (BG c2))
  refine⟨_,⟨?gq2,J,?hl2,?hB2⟩,hS⟩
  case hB2=>rw [hq];(try rfl)
  case hl2=>rw [hq];assumption
 have c2p:=kz c2
 refine Aa ?_
 refine AB (.t1 0) ?_
 refine AA (AJ (Gm J ?_))
 refine Ak J EV (.c J (.c J .n)) (.c .h (.c .h .n)) (Bi _ (AE.Cq (T.A9 (if (!decide (o.nth=1) || o.Bq)=true then [] else o.name)).1 (T.A9 (if (!decide (o.nth=1) || o.Bq)=true then [] else o.name)).1.b ((T.A9 (if (!decide (o.nth=1) || o.Bq)=true then [] else o.name)).2.1+1)) _ _ (by assumption) hsb (by show(T.A9 (if (!decide (o.nth=1) || o.Bq)=true then [] else o.name)).1.out.length≤100000;have:=T.Hj (if (!decide (o.nth=1) || o.Bq)=true then [] else o.name);omega)) (fun v7 B hv=>?_)
 obtain⟨y8,rfl,y9,rfl⟩:=hv
 refine AR ?_
 refine Bs J .n ?_
 intro w1 hS
 have hS:=(hS.perm (Ax.perm (.c .h (.c .h .n)))).A5
 have hq:T.FK o=_:=(show T.FK o=_ from AX c1).trans (congrArg (fun q=>AE.tell q AE.NF) (AX c2))
 refine⟨_,⟨?gq3,J,?hl3,?hB3⟩,hS⟩
 case hB3=>rw [hq];(try rfl)
 case hl3=>rw [hq];assumption
theorem Jq (b:Nat)(T:AE)(g:Hd)(hF:T.Fit):KN Tryz.prog 132 #[.pointer (some ⟨b,0,none⟩)] [Ab.box b 163 (Af.enc ⟨T.w,T.b,g⟩)] (fun v B=>∃ f:Hd,v=f.val∧f.len=(T.seen).length∧B = [Ab.box b 163 (Af.enc ⟨T.w,T.b,g⟩),Ab.own f 3 1 ((T.seen).flatMap Az)]):=by
 intro w hS0
 have hb:=hF.b
 have hr:=hF.room
 refine Ap _ _ Tryz.func132 J J J (hS0) ?_
 refine Gs (Ga J (Gn (.t1 0) (Aq ?_)))
 refine BE (N:=12) [0,0,2,6,14,1,33,97,255,511,1023,2047] mix (by kernel_rfl) J ?_
 refine Pf 0 J (AF J) (Pf 1 J (AF J) (Pf 2 J (Bb J) (Pf 3 J (Al Cb J) (Pf 4 J (AI J A8 .m0 Af.l1 J J) (Pf 5 J (Bb J) (Pf 6 J (Al BB J) (Pf 7 J (Al Bx J) ?_)))))))
 refine Pf 8 J (AQ DI J J (by first | omega | exact hb.1 | exact hb.2 | (dsimp only;omega)) (by first | omega | exact hb.1 | exact hb.2 | (dsimp only;omega))) ?_
 refine Pf 9 J (Al DE J) ?_
 refine Pf 10 J (AI J A8 .m0 (((Af.l0.comp AH.l2).comp (AU.ar (n:=6) Am.fl (by first | omega | exact hb | (dsimp only;omega)))).comp Am.l3) J J) ?_
 refine Pf 11 J (A0 J) ?_
 refine A2 (by kernel_rfl) ?_
 refine AB (.t2 0 3) ?_
 refine AA (CL (Gm J (Gt (Bb J) (Gt (Al BB J) (Gt (AZ J Bf .m0 Af.l0 J) (Gm J ?_))))))
 refine BC J We (.c J (.c J .n)) (fun w hS=>Et _ _ w) ?_
 refine Gt (BZ J) (Gn (.t3 0 3 21) ?_)
 refine Gc (fun c1=>?_) (fun c1=>?_)
 ·
  refine Gs (Ga J (Gn (.t1 2) (Ac (AD ?_))))
  refine AY J (.tmp J .n) ?_
  intro w1 hS
  have hS:=hS.Cx 3 1
  have hS:=(hS.perm (Ax.perm (.c (.t .h) (.c .h .n)))).A5
  have hq:T.seen=_:=BG c1
  exact⟨_,⟨⟨none,0,0⟩,J,by rw [hq];rfl,by rw [hq];rfl⟩,hS⟩
 have c1p:=kz c1
 refine Aa ?_
 refine AB (.t2 0 3) ?_
 refine AA (Gs (Gm J (Gt (Bb J) (Gt (Al BB J) (Gt (AZ J Bf .m0 Af.l0 J) (Gm J ?_))))))
 refine Ak J TX (.c J (.c J (.c J .n))) .n (FU _ _ _) (fun v2 B hv=>?_)
 obtain⟨y3,rfl,y4,rfl⟩:=hv
 refine Ga J (Gn (.t1 2) (Ac ?_))
 refine AY J (.tmp J .n) ?_
 intro w1 hS
 have hS:=(hS.perm (Ax.perm (.c (.t .h) (.c .h .n)))).A5
 have hq:T.seen=_:=(AX c1)
 exact⟨_,⟨_,J,by rw [hq];first | rfl | assumption,by rw [hq];rfl⟩,hS⟩
theorem FB (b:Nat)(T:AE)(g:Hd)(f:Hd)(l:List Int)(z:Int)(u:Ad)(a:Bool)(hF:T.Fit)(hf:f.len=l.length)(hl:l.length≤100)(hi:∀ i∈l,0≤i∧i < 9):KN Tryz.prog 134 #[.pointer (some ⟨b,0,none⟩),f.val, .int .i64 z,BW u, .bool a] [Ab.box b 163 (Af.enc ⟨T.w,T.b,g⟩),Ab.own f 3 1 (l.flatMap Az)] (fun v B=>∃ h:Hd,v=h.val∧h.len=(AE.BX T.w l z u a).length∧B = [Ab.box b 163 (Af.enc ⟨T.w,T.b,g⟩),Ab.own f 3 1 (l.flatMap Az),Ab.own h 3 1 ((AE.BX T.w l z u a).flatMap Az)]):=by
 intro w hS0
 have hb:=hF.b
 have hr:=hF.room
 refine Ap _ _ Tryz.func134 J J J (hS0) ?_
 refine Gs (Ga J (Gn (.t5 0 1 2 3 4) (Gs (Ga J (AR (AA (CL ?_)))))))
 refine Gm J (Gt (Au J Tryz.underlying169 J) (Gm J (Gn (.t8 0 2 3 4 11 14 15 16) (Ag ?_))))
 refine Bw (.t8 11 16 0 2 3 4 14 15) ?_
 refine E2 Az 3 1 ?_
 refine Dx (fun(k:Int) (xs:List Int) (h:Hd)=>0≤k∧k≤(l.length:Int)∧xs=AE.J1 T.w u (l.take k.toNat)∧h.len=xs.length∧xs.length≤k.toNat) (fun(k:Int) (xs:List Int) (h:Hd)=>((l.length:Int) - k).toNat) (fun(k:Int) (xs:List Int) (h:Hd)=> [(11,h.val),(16, .int .i64 k)]) (fun(k:Int) (xs:List Int) (h:Hd)=> [Ab.own h 3 1 (xs.flatMap Az)]) (0) ([]) (_) ?_ J J (fun k xs h hI1=>?_)
 · exact⟨by omega,by omega,rfl,rfl,by simp⟩
 obtain⟨hI11,hI12,hI13,hI14,hI15⟩:=hI1
 refine Gs (Gt (BA J J) (AR (AA (Aq ?_))))
 refine Gc (fun c1=>?_) (fun c1=>?_)
 ·
  have c1p:=kz c1
  have hx:=hi _ (Bh.FC (xs:=l) (i:=k.toNat) (by omega))
  refine Aa ?_
  refine AB (.t8 0 2 3 4 11 14 15 16) ?_
  refine AA (Aq (Ag (Gs ?_)))
  refine Gt (Bz HL (by decide) (Kn.own .m2) J J (by omega) (by omega)) ?_
  refine Gt (DT J A8 (Kn.own .m2) (by omega)) ?_
  refine Ga J (Gn (.t9 0 2 3 4 11 13 14 15 16) (Gs (Gm J (Gt (B4 J J) (Gm J (Bj 22 J J (fun q=>AF J) (Bj 22 J J (fun q=>AF J) ?_)))))))
  refine Bj 22 J J (fun q=>Bb (cF J q)) (Bj 22 J J (fun q=>Al BB (cF J q)) (Bj 22 J J (fun q=>Al C6 (cF J q)) ?_))
  refine Bj 22 J J (fun q=>by have q1:=q;(try simp at q1);exact AQ Gq (cF rfl q) (cF rfl q) (by first | omega | exact hb.1 | exact hb.2) (by first | omega | exact hb.1 | exact hb.2)) ?_
  refine Bj 22 J J (fun q=>Al NC (cF J q)) ?_
  refine Bj 22 J J (fun q=>by have q1:=q;(try simp at q1);exact AI (cF rfl q) CO .m1 (((Af.l0.comp AH.l1).comp (AU.ar (n:=9) An.fl (by first | omega | exact hb))).comp An.l0) rfl rfl) ?_
  refine Bj 22 J J (fun q=>AF J) (Bj 22 J J (fun q=>B4 (cF J q) (cF J q)) ?_)
  refine Gt (Ba J J (fun h=>by rw [h];rfl)) ?_
  refine Gn (.t10 0 2 3 4 11 13 14 15 16 33) ?_
  refine Gc (fun c2=>?_) (fun c2=>?_)
  ·
   have c2p:=kz c2
   refine AJ (Gm J (Gm J ?_))
   refine Fe Az B9 J Tryz.underlying169 DO fJ J (by decide) (by decide) J J (fun b1=>?_)
   refine CW B9 J Tryz.underlying169 DO fJ J iZ (by decide) (by decide) J J (fun w hS=>Src.D4 Tryz.underlying169 ((Kn.own .m0) w hS)) (by(try dsimp only);omega) (fun _=>(.t .h)) (fun h1 h1l h1z=>?_)
   refine Ga J ?_
   refine AR (AB (.t8 0 2 3 4 11 14 15 16) ?_)
   refine AV (AA (AJ ?_))
   refine Gt (Ay J J (IntWalk.i64_in _ (by first | omega | exact hb.1 | exact hb.2))) ?_
   refine Gm J ?_
   refine AR (AB (.t8 0 2 3 4 11 14 15 16) ?_)
   refine B2 (k+1) _ _ ?_ ?_ (.t8 11 16 0 2 3 4 14 15) (.cons _ (.refl _))
   · exact⟨by omega,by omega,by rw [AE.cn hI11 (by omega) c2,← hI13],(by(try dsimp only at *)<;>(try simp only [List.length_append,List.length_cons,List.length_nil])<;>omega),(by(try simp only [List.length_append,List.length_cons,List.length_nil]);omega)⟩
   · omega
  have c2p:=kz c2
  refine Aa ?_
  refine AB (.t8 0 2 3 4 11 14 15 16) ?_
  refine AV (AA (AJ ?_))
  refine Gt (Ay J J (IntWalk.i64_in _ (by first | omega | exact hb.1 | exact hb.2))) ?_
  refine Gm J ?_
  refine AR (AB (.t8 0 2 3 4 11 14 15 16) ?_)
  refine B2 (k+1) _ _ ?_ ?_ (.t8 11 16 0 2 3 4 14 15) (.refl _)
  · exact⟨by omega,by omega,by rw [AE.bl hI11 (by omega) c2,← hI13],(by(try dsimp only at *)<;>(try simp only [List.length_append,List.length_cons,List.length_nil])<;>omega),(by(try simp only [List.length_append,List.length_cons,List.length_nil]);omega)⟩
  · omega
 have c1p:=kz c1
 obtain rfl:k=(l.length:Int):=by omega
 have hx3:=hI13
 rw [show(l.length:Int).toNat=l.length by omega,List.take_length] at hx3
 have hpa:=AE.XD T.w u l
 rw [← hx3] at hpa
 refine Bg (AW (AW (Ah ?_)))
 refine AB (.t3 2 4 11) ?_
 refine AA (CL (Gm J (Gn (.t3 2 11 39) ?_)))
 refine Gc (fun c3=>?_) (fun c3=>?_)
 ·
  have c3p:=kz c3
  refine Gs (Gm J (Ga J (Gn (.t1 10) (Ac (AD ?_)))))
  refine AY J (.tmp J .n) ?_
  intro w1 hS
  have hS:=(hS.perm (Ax.perm (.c (.t .h) (.c (.t .h) (.c .h .n))))).A5
  have hq:AE.BX T.w l z u a=_:=(BG c3)
  refine⟨_,⟨_,J,?hl1,?hB1⟩,hS⟩
  case hB1=>rw [hq];(try rw [← hx3]);(try rfl)
  case hl1=>rw [hq];first | rfl | (rw [← hx3];first | assumption | (simp only [Hd.cut,List.length_drop,List.length_take];omega))
 have c3p:=kz c3
 refine Aa ?_
 refine AB (.t2 2 11) ?_
 refine AA (CL (Gm J (Gt (BA J J) (Gm J (Bj 43 J J (fun q=>AF J) (Bj 43 J J (fun q=>AF J) (Bj 43 J J (fun q=>Au J Tryz.underlying169 (cF J q)) ?_)))))))
 refine Bj 43 J J (fun q=>Cs (cF J q) (cF J q)) ?_
 refine Gt (Ba J J (fun h=>by rw [h];rfl)) ?_
 refine Gn (.t3 2 11 48) ?_
 refine Gc (fun c4=>?_) (fun c4=>?_)
 ·
  have c4p:=kz c4
  rw [hI14,hx3] at c4
  refine Gs (Ga J (Gn (.t1 10) (Ac (AD ?_))))
  refine AY J (.tmp J .n) ?_
  intro w1 hS
  have hS:=hS.Cx 3 1
  have hS:=(hS.perm (Ax.perm (.c (.t (.t .h)) (.c (.t (.t .h)) (.c .h .n))))).A5
  have hq:AE.BX T.w l z u a=_:=((AX c3).trans (BG c4))
  refine⟨_,⟨⟨none,0,0⟩,J,?hl2,?hB2⟩,hS⟩
  case hB2=>rw [hq];(try rw [← hx3]);(try rfl)
  case hl2=>rw [hq];first | rfl | (rw [← hx3];first | assumption | (simp only [Hd.cut,List.length_drop,List.length_take];omega))
 have c4p:=kz c4
 have c4q:=c4p
 rw [hI14,hx3] at c4
 refine Aa ?_
 refine AB (.t2 2 11) ?_
 refine AA (Gs (Gm J (Gm J ?_)))
 refine Gt (FT J J (IntWalk.i64_in _ (by first | omega | exact hb.1 | exact hb.2))) ?_
 refine Gm J ?_
 refine Uq B9 J Tryz.underlying169 DO J J J (by first | omega | exact hb.1 | exact hb.2) (by first | omega | exact hb.1 | exact hb.2) (by first | omega | exact hb.1 | exact hb.2) (fun _=> .h) ?_
 refine Ga J (Gn (.t1 10) (Ac ?_))
 refine AY J (.tmp J .n) ?_
 intro w1 hS
 have hS:=(hS.perm (Ax.perm (.c (.t .h) (.c (.t .h) (.c .h .n))))).A5
 have hq:AE.BX T.w l z u a=_:=((AX c3).trans (AX c4))
 refine⟨_,⟨_,J,?hl3,?hB3⟩,hS⟩
 case hB3=>rw [hq];(try rw [← hx3]);(try rfl)
 case hl3=>rw [hq];first | rfl | (rw [← hx3];first | assumption | (simp only [Hd.cut,List.length_drop,List.length_take];omega))
theorem S5 (b:Nat)(T:AE)(g:Hd)(u:Ad)(hF:T.Fit)(hu:u.length≤5000000):FO Tryz.prog 161 #[.pointer (some ⟨b,0,none⟩),BW u] [Ab.box b 163 (Af.enc ⟨T.w,T.b,g⟩)] (fun w=>(HP 7 w∧7 ∉ Ch [Ab.box b 163 (Af.enc ⟨T.w,T.b,g⟩)])∧(HP 8 w∧8 ∉ Ch [Ab.box b 163 (Af.enc ⟨T.w,T.b,g⟩)])) (fun v B=>v = .tuple #[.int .i64 (T.one u).1, .bool (T.one u).2]∧B = [Ab.box b 163 (Af.enc ⟨T.w,T.b,g⟩)]):=by
 intro w hS0 hH
 obtain⟨⟨gl0,gm0⟩,⟨gl1,gm1⟩⟩:=hH
 have hb:=hF.b
 have hr:=hF.room
 have ho9:=T.K6
 have hs9:=T.JS
 refine Ap _ _ Tryz.func161 J J J (hS0) ?_
 refine Gs (Ga J (Ga J (Gn (.t2 0 1) (Gs (Gm J ?_)))))
 refine BC J Wu (.c J .n) (fun w hS=>Fg _ (by first | assumption | omega) w (gl0.stM gm0 hS) (gl1.stM gm1 hS)) ?_
 refine Gm J (Gt (AM J J) (Gt (AM J J) (Gt (AM J J) (Gt (AM J J) (Ga J (Ga J (Ga J ?_)))))))
 refine Ga J (Gn (.t5 0 6 7 8 9) (CL (Gm J (Gt (Cm J J) (Gm J (Bj 20 J J (fun q=>AF J) ?_))))))
 refine Gt (Ba J J (fun h=>by rw [h];rfl)) ?_
 refine Gn (.t4 0 6 7 22) ?_
 refine Gc (fun c1=>?_) (fun c1=>?_)
 ·
  refine Gs (Ga J (Ga J (Gn (.t2 4 5) (Ac (AD ?_)))))
  refine AY J (.tmp J (.tmp J .n)) ?_
  intro w1 hS
  have hS:=(hS.perm (Ax.perm (.c .h .n))).A5
  have hq:T.one u=_:=(BG c1)
  exact⟨_,⟨by rw [hq];rfl,rfl⟩,hS⟩
 have c1p:=kz c1
 refine Aa ?_
 refine AB (.t3 0 6 7) ?_
 refine AA (Gs (Gm J (Gm J ?_)))
 refine Ak J WU (.c J .n) (.c .h .n) (Ib _ _ _ (by first | assumption | omega)) (fun v1 B hv=>?_)
 obtain⟨y2,rfl,y3,rfl⟩:=hv
 refine Gm J ?_
 refine Ak J ZO (.c J .n) (.c .h .n) (Jq _ _ _ (by first | assumption | omega)) (fun v5 B hv=>?_)
 obtain⟨y6,rfl,y7,rfl⟩:=hv
 refine CW B9 J Tryz.underlying169 DO fJ J iZ (by decide) (by decide) J J (fun w hS=>Src.D4 Tryz.underlying169 ((Kn.own .m1) w hS)) (by(try dsimp only);omega) (fun _=>(.t (.t .h))) (fun h9 h9l h9z=>?_)
 refine Gm J (Gm J ?_)
 refine Ak J RY (.c J (.c J (.c J (.c J (.c J .n))))) (.c .h (.c (.t .h) .n)) (FB _ T _ _ (T.own++T.seen) _ _ _ hF (by rw [List.length_append];omega) (by rw [List.length_append];omega) (fun i hi=>AE.R9 hi)) (fun v10 B hv=>?_)
 obtain⟨y11,rfl,y12,rfl⟩:=hv
 refine Ga J (Gn (.t1 10) (CL (Gm J (Gt (Au J Tryz.underlying169 J) (Gt (Ai J J) (Gn (.t2 10 34) ?_))))))
 refine Gc (fun c2=>?_) (fun c2=>?_)
 ·
  have c2p:=kz c2
  have hpl:=y12
  rw [hpl] at c2 c2p
  refine Gs (Ga J (Ga J (Gn (.t2 4 5) (Ac (AD ?_)))))
  refine AY J (.tmp J (.tmp J .n)) ?_
  intro w1 hS
  have hS:=(hS.perm (Ax.perm (.c .h .n))).A5
  have hq:T.one u=_:=((AX c1).trans (BG c2))
  exact⟨_,⟨by rw [hq];rfl,rfl⟩,hS⟩
 have c2p:=kz c2
 have hpl:=y12
 rw [hpl] at c2 c2p
 refine Aa ?_
 refine AB (.t1 10) ?_
 refine AA (Gs (Gm J ?_))
 refine Gt (Bz HL (by decide) (Kn.own .m2) J J (by omega) (by omega)) ?_
 refine Gt (DT J A8 (Kn.own .m2) (by omega)) ?_
 refine Ga J (Ga J (Gn (.t2 4 5) (Ac ?_)))
 refine AY J (.tmp J (.tmp J .n)) ?_
 intro w1 hS
 have hS:=(hS.perm (Ax.perm (.c .h .n))).A5
 have hq:T.one u=_:=((AX c1).trans (AX c2))
 exact⟨_,⟨by rw [hq];rfl,rfl⟩,hS⟩
theorem Nr (b:Nat)(T:AE)(g:Hd)(u:Ad)(hg:g.len=T.out.length)(hF:T.Fit)(hu:u.length≤5000000)(hn:T.out.length≤99000):FO Tryz.prog 133 #[.pointer (some ⟨b,0,none⟩),BW u] [Ab.box b 163 (Af.enc ⟨T.w,T.b,g⟩),Ab.own g 56 16 (T.out.flatMap Ing.Event.enc)] (fun w=>(HP 7 w∧7 ∉ Ch [Ab.box b 163 (Af.enc ⟨T.w,T.b,g⟩),Ab.own g 56 16 (T.out.flatMap Ing.Event.enc)])∧(HP 8 w∧8 ∉ Ch [Ab.box b 163 (Af.enc ⟨T.w,T.b,g⟩),Ab.own g 56 16 (T.out.flatMap Ing.Event.enc)])) (fun v B=>∃ g':Hd,v = .tuple #[.int .i64 (T.box u).2.1, .bool (T.box u).2.2]∧g'.len=((T.box u).1).out.length∧B = [Ab.box b 163 (Af.enc ⟨((T.box u).1).w,((T.box u).1).b,g'⟩),Ab.own g' 56 16 (((T.box u).1).out.flatMap Ing.Event.enc)]):=by
 intro w hS0 hH
 obtain⟨⟨gl0,gm0⟩,⟨gl1,gm1⟩⟩:=hH
 have hb:=hF.b
 have hr:=hF.room
 have ho:=T.WK u
 refine Ap _ _ Tryz.func133 J J J (hS0) ?_
 refine Gs (Ga J (Ga J (Gn (.t2 0 1) (Gs (Gm J (Gm J ?_))))))
 refine BL J iC (.c J (.c J .n)) (.c .h .n) (S5 _ T _ _ hF hu) (fun w hS=>⟨gl0.pull gm0 hS (.c .h .n),gl1.pull gm1 hS (.c .h .n)⟩) (fun v1 B hv=>?_)
 obtain⟨rfl,rfl⟩:=hv
 refine Gm J (Gt (AM J J) (Gt (AM J J) (Ga J (Ga J (Gn (.t3 0 6 7) (CL (Gm J ?_)))))))
 refine Gt (BZ J) (Gm J (Bj 16 J J (fun q=>AF J) (Bj 16 J J (fun q=>AF J) (Bj 16 J J (fun q=>Bb (cF J q)) (Bj 16 J J (fun q=>Al BB (cF J q)) (Bj 16 J J (fun q=>Al C6 (cF J q)) ?_))))))
 refine Bj 16 J J (fun q=>by have q1:=q;(try simp at q1);exact AQ Gq (cF rfl q) (cF rfl q) (by first | omega | exact hb.1 | exact hb.2 | (dsimp only;omega)) (by first | omega | exact hb.1 | exact hb.2 | (dsimp only;omega))) ?_
 refine Bj 16 J J (fun q=>Al HR (cF J q)) ?_
 refine Bj 16 J J (fun q=>by have q1:=q;(try simp at q1);exact AI (cF rfl q) A8 .m0 (((Af.l0.comp AH.l1).comp (AU.ar (n:=9) An.fl (by first | omega | exact hb | (dsimp only;omega)))).comp An.l1) rfl rfl) ?_
 refine Bj 16 J J (fun q=>Cm (cF J q) J) ?_
 refine Gt (Ba J J (fun h=>by rw [h];rfl)) ?_
 refine Gn (.t3 0 6 26) ?_
 refine Gc (fun c1=>?_) (fun c1=>?_)
 ·
  have c1p:=kz c1
  refine Gs (Gm J ?_)
  refine Ak J EV (.c J (.c J .n)) (.c .h (.c .h .n)) (Bi _ _ _ _ hg hb (by omega)) (fun v2 B hv=>?_)
  obtain⟨y3,rfl,y4,rfl⟩:=hv
  refine Gn (.nil _) (Gs (Ga J (Ga J (AR (AA (Ac (AD ?_)))))))
  refine AY J (.tmp J (.tmp J .n)) ?_
  intro w1 hS
  have hS:=(hS.perm (Ax.perm (.c .h (.c .h .n)))).A5
  have hq:T.box u=_:=(BG c1)
  refine⟨_,⟨?gq1,?hv1,?hl1,?hB1⟩,hS⟩
  case hB1=>rw [hq];(try rfl)
  case hv1=>rw [hq];(try rfl)
  case hl1=>rw [hq];assumption
 have c1p:=kz c1
 refine Aa ?_
 refine AB (.t2 0 6) ?_
 refine AA (CL (Gm J (Gm J (Gt (Bb J) (Gt (Al BB J) (Gt (Al C6 J) ?_))))))
 refine Gt (AQ Gq J J (by first | omega | exact hb.1 | exact hb.2 | (dsimp only;omega)) (by first | omega | exact hb.1 | exact hb.2 | (dsimp only;omega))) ?_
 refine Gt (Al Gi J) ?_
 refine Gt (AI J D3 .m0 (((Af.l0.comp AH.l1).comp (AU.ar (n:=9) An.fl (by first | omega | exact hb | (dsimp only;omega)))).comp An.l4) J J) ?_
 refine Gt (BZ J) (Gn (.t3 0 6 37) ?_)
 refine Gc (fun c2=>?_) (fun c2=>?_)
 ·
  have c2p:=kz c2
  refine Gs (Gm J ?_)
  refine Ak J EV (.c J (.c J .n)) (.c .h (.c .h .n)) (Bi _ _ _ _ hg hb (by omega)) (fun v5 B hv=>?_)
  obtain⟨y6,rfl,y7,rfl⟩:=hv
  refine Gn (.nil _) (Gs (Ga J (Ga J (AR (AA (Ac (AD ?_)))))))
  refine AY J (.tmp J (.tmp J .n)) ?_
  intro w1 hS
  have hS:=(hS.perm (Ax.perm (.c .h (.c .h .n)))).A5
  have hq:T.box u=_:=((AX c1).trans (BG c2))
  refine⟨_,⟨?gq2,?hv2,?hl2,?hB2⟩,hS⟩
  case hB2=>rw [hq];(try rfl)
  case hv2=>rw [hq];(try rfl)
  case hl2=>rw [hq];assumption
 have c2p:=kz c2
 refine Aa ?_
 refine AB (.t1 6) ?_
 refine AA (Gs (Gm J (Ga J (Ga J (Gn (.t2 4 5) (Ac ?_))))))
 refine AY J (.tmp J (.tmp J .n)) ?_
 intro w1 hS
 have hS:=(hS.perm (Ax.perm (.c .h (.c .h .n)))).A5
 have hq:T.box u=_:=((AX c1).trans (AX c2))
 refine⟨_,⟨?gq3,?hv3,?hl3,?hB3⟩,hS⟩
 case hB3=>rw [hq];(try rfl)
 case hv3=>rw [hq];(try rfl)
 case hl3=>rw [hq];assumption
theorem EE (b:Nat)(T:AE)(g:Hd)(k i:Int)(hg:g.len=T.out.length)(hb:0≤T.b∧T.b < 6)(hi:0≤i∧i < 9)(hn:T.out.length≤100000):KN Tryz.prog 135 #[.pointer (some ⟨b,0,none⟩), .int .i64 k, .int .i64 i] [Ab.box b 163 (Af.enc ⟨T.w,T.b,g⟩),Ab.own g 56 16 (T.out.flatMap Ing.Event.enc)] (fun v B=>∃ g':Hd,v = .tuple #[]∧g'.len=(T.BM k i).out.length∧B = [Ab.box b 163 (Af.enc ⟨(T.BM k i).w,(T.BM k i).b,g'⟩),Ab.own g' 56 16 ((T.BM k i).out.flatMap Ing.Event.enc)]):=by
 intro w hS0
 refine Ap _ _ Tryz.func135 J J J (hS0) ?_
 refine AJ (Gm J (Gm J (Gm J (Gm J (Gt (Bb J) (Gt (Al BB J) (Gt (Al C6 J) ?_)))))))
 refine Gt (AQ Gq J J (by(try dsimp only at *);omega) (by(try dsimp only at *);omega)) ?_
 refine Gt (Al NC J) ?_
 refine Gt (AI J CO .m0 (((Af.l0.comp AH.l1).comp (AU.arr (n:=9) An.fl (by(try dsimp only at *);omega) (by(try dsimp only at *);omega))).comp An.l0) J J) ?_
 refine Gt (BF QW JE J (.cons Ing.Event.l0 J J J (.cons Ing.Event.l3 J J J (.cons Ing.Event.l8 J J J .nil)))) ?_
 refine Ak J Pw (.c J (.c J .n)) (.c .h (.c .h .n)) (CY _ _ _ { AE.GF k with BM:=(T.w.AP.at i).name } hg hb (show(-1:Int) < 6 by decide) hn) (fun v1 B hv=>?_)
 obtain⟨y2,rfl,y3,rfl⟩:=hv
 refine AR ?_
 refine Bs J .n ?_
 intro w1 hS
 have hS:=(hS.perm (Ax.perm (.c .h (.c .h .n)))).A5
 exact⟨_,⟨_,J,by assumption,rfl⟩,hS⟩
theorem UF (b:Nat)(T:AE)(g:Hd)(o:Order)(hg:g.len=T.out.length)(hF:T.Fit)(hu:o.second.length≤5000000)(hn:T.out.length≤90000):FO Tryz.prog 105 #[.pointer (some ⟨b,0,none⟩), .agg o.enc.toArray] [Ab.box b 163 (Af.enc ⟨T.w,T.b,g⟩),Ab.own g 56 16 (T.out.flatMap Ing.Event.enc)] (fun w=>(HP 7 w∧7 ∉ Ch [Ab.box b 163 (Af.enc ⟨T.w,T.b,g⟩),Ab.own g 56 16 (T.out.flatMap Ing.Event.enc)])∧(HP 8 w∧8 ∉ Ch [Ab.box b 163 (Af.enc ⟨T.w,T.b,g⟩),Ab.own g 56 16 (T.out.flatMap Ing.Event.enc)])) (fun v B=>∃ g':Hd,v = .tuple #[]∧g'.len=(T.get o).out.length∧B = [Ab.box b 163 (Af.enc ⟨(T.get o).w,(T.get o).b,g'⟩),Ab.own g' 56 16 ((T.get o).out.flatMap Ing.Event.enc)]):=by
 intro w hS0 hH
 obtain⟨⟨gl0,gm0⟩,⟨gl1,gm1⟩⟩:=hH
 have hb:=hF.b
 have hr:=hF.room
 refine Ap _ _ Tryz.func105 J J J (hS0) ?_
 refine Gs ?_
 refine CB J J J (fun b1=>?_)
 refine Gn (.t2 0 3) (Gs (Gm J ?_))
 refine Ak J ZO (.c J .n) (.c (.t .h) .n) (Jq _ _ _ (by first | assumption | omega)) (fun v1 B hv=>?_)
 obtain⟨y2,rfl,y3,rfl⟩:=hv
 refine Ga J (Gn (.t3 0 3 4) (CL (Gt (Al Im J) (Gt (AI J CO .m2 Order.l4 J J) (Gt (DK J J) (Gn (.t4 0 3 4 14) ?_))))))
 refine Gc (fun c1=>?_) (fun c1=>?_)
 ·
  have c1p:=kz c1
  refine Gs (Gm J (Gt (Al Im J) (Gt (AI J CO .m2 Order.l4 J J) ?_)))
  refine BL J dY (.c J (.c J .n)) (.c .h (.c (.t (.t .h)) .n)) (Nr _ T _ _ hg hF hu (by omega)) (fun w hS=>⟨gl0.pull gm0 hS (.c .h (.c (.t (.t .h)) .n)),gl1.pull gm1 hS (.c .h (.c (.t (.t .h)) .n))⟩) (fun v5 B hv=>?_)
  obtain⟨y6,rfl,y7,rfl⟩:=hv
  refine Gm J (Gt (AM J J) (Gt (AM J J) (Ga J (Ga J (Gn (.t4 0 3 5 6) (CL (Gm J ?_)))))))
  refine Gt (BZ J) (Gn (.t4 0 3 5 23) ?_)
  refine Gc (fun c2=>?_) (fun c2=>?_)
  ·
   have c2p:=kz c2
   refine Ac (AD (AD ?_))
   refine AY J .n ?_
   intro w1 hS
   have hS:=(hS.perm (Ax.perm (.c .h (.c .h .n)))).A5
   have hq:T.get o=_:=((BG c1).trans (BG c2))
   refine⟨_,⟨?gq1,J,?hl1,?hB1⟩,hS⟩
   case hB1=>rw [hq];(try rfl)
   case hl1=>rw [hq];assumption
  have c2p:=kz c2
  refine Aa ?_
  refine AB (.t3 0 3 5) ?_
  refine AA (AJ (Gm J (Gt (Bb J) (Gt (Al BB J) (Gt (AZ J Bf .m0 Af.l0 J) (Gm J ?_))))))
  refine Ak J TX (.c J (.c J (.c J .n))) .n (FU _ _ _) (fun v8 B hv=>?_)
  obtain⟨y9,rfl,y10,rfl⟩:=hv
  refine Ga J (Gn (.t3 0 3 4) (Gs (Gm J (Gm J (Gt (Al G2 J) (Gt (AI J A8 .m4 Order.l1 J J) (Gt (Al GR J) ?_)))))))
  refine Gt (AI J CO .m4 Order.l3 J J) (Gt (Al Hn J) (Gt (AI J D3 .m4 Order.l2 J J) ?_))
  refine Ak J RY (.c J (.c J (.c J (.c J (.c J .n))))) (.c (.t .h) (.c .h .n)) (FB _ (T.box o.second).1 _ _ ((T.box o.second).1.w.has 2 (T.box o.second).2.1) _ _ _ (hF.Ew (T.KQ _).1 (T.KQ _).2) (by assumption) (Nat.le_trans (AH.Iw _ _ _) (by decide)) (fun i hi=>AH.GD hi)) (fun v12 B hv=>?_)
  obtain⟨y13,rfl,y14,rfl⟩:=hv
  refine Ga J (Gn (.t2 0 4) (CL (Gm J (Gt (Au J Tryz.underlying169 J) (Gt (Ai J J) (Gn (.t3 0 4 41) ?_))))))
  refine Gc (fun c3=>?_) (fun c3=>?_)
  ·
   have c3p:=kz c3
   rw [y14] at c3
   refine AJ (Gm J ?_)
   refine Ak J EV (.c J (.c J .n)) (.c .h (.c (.t (.t .h)) .n)) (Bi _ (T.box o.second).1 _ _ (by assumption) (by rw [(T.KQ _).2];exact hb) (by have:=T.Iq o.second;omega)) (fun v16 B hv=>?_)
   obtain⟨y17,rfl,y18,rfl⟩:=hv
   refine Gn (.t2 0 4) (Gs (Gm J (Gt (Au J Tryz.underlying169 J) (Gm J (Gn (.t4 0 44 45 46) (Ag ?_))))))
   refine Bw (.t4 46 0 44 45) ?_
   refine Be (.t .h) ?_
   refine Be (.t .h) ?_
   refine Dx (fun(k:Int) (X:AE) (h:Hd)=>0≤k∧k≤((AE.BX (T.box o.second).1.w ((T.box o.second).1.w.has 2 (T.box o.second).2.1) o.nth o.name o.Bq).length:Int)∧T.get o=X.DR ((AE.BX (T.box o.second).1.w ((T.box o.second).1.w.has 2 (T.box o.second).2.1) o.nth o.name o.Bq).drop k.toNat)∧X.b=T.b∧(X.out.length:Int)≤T.out.length+2+k∧h.len=X.out.length∧((AE.BX (T.box o.second).1.w ((T.box o.second).1.w.has 2 (T.box o.second).2.1) o.nth o.name o.Bq).length:Int)≤9) (fun(k:Int) (X:AE) (h:Hd)=>(((AE.BX (T.box o.second).1.w ((T.box o.second).1.w.has 2 (T.box o.second).2.1) o.nth o.name o.Bq).length:Int) - k).toNat) (fun(k:Int) (X:AE) (h:Hd)=> [(46, .int .i64 k)]) (fun(k:Int) (X:AE) (h:Hd)=> [Ab.box b 163 (Af.enc ⟨X.w,X.b,h⟩),Ab.own h 56 16 (X.out.flatMap Ing.Event.enc)]) (0) (_) (_) ?_ J J (fun k X h hI1=>?_)
   · exact⟨by omega,by omega,((BG c1).trans (AX c2)).trans (congrArg (fun q=>AE.DR q _) (BG c3)),(T.KQ _).2,by have:=T.Iq o.second;(try simp only [AE.CM]);omega,by assumption,by have:=(AE.El (T.box o.second).1.w ((T.box o.second).1.w.has 2 (T.box o.second).2.1) o.nth o.name o.Bq).length_le;have:=AH.Iw (T.box o.second).1.w 2 (T.box o.second).2.1;omega⟩
   obtain⟨hI11,hI12,hI13,hI14,hI15,hI16,hI17⟩:=hI1
   refine Gs (Gt (BA J J) (AR (AA (Aq ?_))))
   refine Gc (fun c4=>?_) (fun c4=>?_)
   ·
    have c4p:=kz c4
    have hx:0≤(AE.BX (T.box o.second).1.w ((T.box o.second).1.w.has 2 (T.box o.second).2.1) o.nth o.name o.Bq).getD k.toNat 0∧(AE.BX (T.box o.second).1.w ((T.box o.second).1.w.has 2 (T.box o.second).2.1) o.nth o.name o.Bq).getD k.toNat 0 < 9:=(fun i hi=>AH.GD (AE.D6 hi)) _ (Bh.FC (xs:=(AE.BX (T.box o.second).1.w ((T.box o.second).1.w.has 2 (T.box o.second).2.1) o.nth o.name o.Bq)) (i:=k.toNat) (by omega))
    refine Aa ?_
    refine AB (.t4 0 44 45 46) ?_
    refine AA (Aq (Ag (Gs ?_)))
    refine Gt (Bz HL (by decide) (Kn.own .m3) J J (by omega) (by omega)) ?_
    refine Gt (DT J A8 (Kn.own .m3) (by omega)) ?_
    refine Ga J (Gn (.t5 0 8 44 45 46) (Gs (Gm J (Gm J (Gt (Bb J) (Gt (Al BB J) (Gt (Al C6 J) ?_)))))))
    refine Gt (AQ Gq J J (by first | omega | exact hb.1 | exact hb.2 | (dsimp only;omega)) (by first | omega | exact hb.1 | exact hb.2 | (dsimp only;omega))) ?_
    refine Ga J (Gn (.t6 0 8 9 44 45 46) (Gs (Gm J (Gm J (Gm J (Gt (Bb J) (Gt (Al Cb J) ?_)))))))
    refine Gt (AI J A8 .m0 Af.l1 J J) (Gt (Bb J) (Gt (Al Fm J) ?_))
    refine AT (AL (((Af.l0.comp AH.l1).comp (AU.ar (n:=9) An.fl (by first | omega | exact hb | (dsimp only;omega)))).comp An.l2) J J J DO J .h) ?_
    refine Gt (Bb J) (Gt (Al DX J) ?_)
    refine AT (AL (((Af.l0.comp AH.l1).comp (AU.ar (n:=9) An.fl (by first | omega | exact hb | (dsimp only;omega)))).comp An.l3) J J J DO J .h) ?_
    refine Gn (.t5 0 8 44 45 46) ?_
    refine Gw (fun _=> .h) (congrArg (fun q=>Af.enc ⟨q,_,_⟩) (AE.IJ X hx.1 hx.2 1 X.b)) ?_
    refine AJ (Gm J (Gm J ?_))
    refine Ak J Pm (.c J (.c J (.c J .n))) (.c .h (.c .h .n)) (EE _ (X.place ((AE.BX (T.box o.second).1.w ((T.box o.second).1.w.has 2 (T.box o.second).2.1) o.nth o.name o.Bq).getD k.toNat 0) 1 X.b) _ 3 ((AE.BX (T.box o.second).1.w ((T.box o.second).1.w.has 2 (T.box o.second).2.1) o.nth o.name o.Bq).getD k.toNat 0) (by assumption) (show 0≤X.b∧X.b < 6 by rw [hI14];exact hb) hx (show X.out.length≤100000 by omega)) (fun v19 B hv=>?_)
    obtain⟨y20,rfl,y21,rfl⟩:=hv
    refine AR (AB (.t4 0 44 45 46) ?_)
    refine AV (AA (AJ ?_))
    refine Gt (Ay J J (IntWalk.i64_in _ (by first | omega | exact hb.1 | exact hb.2 | (dsimp only;omega)))) ?_
    refine Gm J ?_
    refine AR (AB (.t4 0 44 45 46) ?_)
    refine B2 (k+1) _ _ ?_ ?_ (.t4 46 0 44 45) (.refl _)
    · exact⟨by omega,by omega,by rw [hI13,AE.Ho hI11 (by omega)],hI14,(by rw [AE.F2];show((X.out.length+1:Nat):Int)≤_;omega),by assumption,hI17⟩
    · omega
   have c4p:=kz c4
   obtain rfl:k=((AE.BX (T.box o.second).1.w ((T.box o.second).1.w.has 2 (T.box o.second).2.1) o.nth o.name o.Bq).length:Int):=by omega
   rw [AE.KX] at hI13
   refine Bg (AW (AW (Ah ?_)))
   refine Bs J .n ?_
   intro w1 hS
   have hS:=(hS.perm (Ax.perm (.c .h (.c .h .n)))).A5
   refine⟨_,⟨?gq2,J,?hl2,?hB2⟩,hS⟩
   case hB2=>rw [hI13];rfl
   case hl2=>rw [hI13];exact hI16
  have c3p:=kz c3
  rw [y14] at c3
  refine Aa ?_
  refine AB (.t2 0 4) ?_
  refine AA (Gs (Gm J (Gt (Au J Tryz.underlying169 J) (Gm J (Gn (.t4 0 44 45 46) (Ag ?_))))))
  refine Bw (.t4 46 0 44 45) ?_
  refine Be (.t (.t (.t .h))) ?_
  refine Be (.t .h) ?_
  refine Dx (fun(k:Int) (X:AE) (h:Hd)=>0≤k∧k≤((AE.BX (T.box o.second).1.w ((T.box o.second).1.w.has 2 (T.box o.second).2.1) o.nth o.name o.Bq).length:Int)∧T.get o=X.DR ((AE.BX (T.box o.second).1.w ((T.box o.second).1.w.has 2 (T.box o.second).2.1) o.nth o.name o.Bq).drop k.toNat)∧X.b=T.b∧(X.out.length:Int)≤T.out.length+2+k∧h.len=X.out.length∧((AE.BX (T.box o.second).1.w ((T.box o.second).1.w.has 2 (T.box o.second).2.1) o.nth o.name o.Bq).length:Int)≤9) (fun(k:Int) (X:AE) (h:Hd)=>(((AE.BX (T.box o.second).1.w ((T.box o.second).1.w.has 2 (T.box o.second).2.1) o.nth o.name o.Bq).length:Int) - k).toNat) (fun(k:Int) (X:AE) (h:Hd)=> [(46, .int .i64 k)]) (fun(k:Int) (X:AE) (h:Hd)=> [Ab.box b 163 (Af.enc ⟨X.w,X.b,h⟩),Ab.own h 56 16 (X.out.flatMap Ing.Event.enc)]) (0) (_) (_) ?_ J J (fun k X h hI1=>?_)
  · exact⟨by omega,by omega,((BG c1).trans (AX c2)).trans (congrArg (fun q=>AE.DR q _) (AX c3)),(T.KQ _).2,by have:=T.Iq o.second;(try simp only [AE.CM]);omega,by assumption,by have:=(AE.El (T.box o.second).1.w ((T.box o.second).1.w.has 2 (T.box o.second).2.1) o.nth o.name o.Bq).length_le;have:=AH.Iw (T.box o.second).1.w 2 (T.box o.second).2.1;omega⟩
  obtain⟨hI11,hI12,hI13,hI14,hI15,hI16,hI17⟩:=hI1
  refine Gs (Gt (BA J J) (AR (AA (Aq ?_))))
  refine Gc (fun c5=>?_) (fun c5=>?_)
  ·
   have c5p:=kz c5
   have hx:0≤(AE.BX (T.box o.second).1.w ((T.box o.second).1.w.has 2 (T.box o.second).2.1) o.nth o.name o.Bq).getD k.toNat 0∧(AE.BX (T.box o.second).1.w ((T.box o.second).1.w.has 2 (T.box o.second).2.1) o.nth o.name o.Bq).getD k.toNat 0 < 9:=(fun i hi=>AH.GD (AE.D6 hi)) _ (Bh.FC (xs:=(AE.BX (T.box o.second).1.w ((T.box o.second).1.w.has 2 (T.box o.second).2.1) o.nth o.name o.Bq)) (i:=k.toNat) (by omega))
   refine Aa ?_
   refine AB (.t4 0 44 45 46) ?_
   refine AA (Aq (Ag (Gs ?_)))
   refine Gt (Bz HL (by decide) (Kn.own .m3) J J (by omega) (by omega)) ?_
   refine Gt (DT J A8 (Kn.own .m3) (by omega)) ?_
   refine Ga J (Gn (.t5 0 8 44 45 46) (Gs (Gm J (Gm J (Gt (Bb J) (Gt (Al BB J) (Gt (Al C6 J) ?_)))))))
   refine Gt (AQ Gq J J (by first | omega | exact hb.1 | exact hb.2 | (dsimp only;omega)) (by first | omega | exact hb.1 | exact hb.2 | (dsimp only;omega))) ?_
   refine Ga J (Gn (.t6 0 8 9 44 45 46) (Gs (Gm J (Gm J (Gm J (Gt (Bb J) (Gt (Al Cb J) ?_)))))))
   refine Gt (AI J A8 .m0 Af.l1 J J) (Gt (Bb J) (Gt (Al Fm J) ?_))
   refine AT (AL (((Af.l0.comp AH.l1).comp (AU.ar (n:=9) An.fl (by first | omega | exact hb | (dsimp only;omega)))).comp An.l2) J J J DO J .h) ?_
   refine Gt (Bb J) (Gt (Al DX J) ?_)
   refine AT (AL (((Af.l0.comp AH.l1).comp (AU.ar (n:=9) An.fl (by first | omega | exact hb | (dsimp only;omega)))).comp An.l3) J J J DO J .h) ?_
   refine Gn (.t5 0 8 44 45 46) ?_
   refine Gw (fun _=> .h) (congrArg (fun q=>Af.enc ⟨q,_,_⟩) (AE.IJ X hx.1 hx.2 1 X.b)) ?_
   refine AJ (Gm J (Gm J ?_))
   refine Ak J Pm (.c J (.c J (.c J .n))) (.c .h (.c .h .n)) (EE _ (X.place ((AE.BX (T.box o.second).1.w ((T.box o.second).1.w.has 2 (T.box o.second).2.1) o.nth o.name o.Bq).getD k.toNat 0) 1 X.b) _ 3 ((AE.BX (T.box o.second).1.w ((T.box o.second).1.w.has 2 (T.box o.second).2.1) o.nth o.name o.Bq).getD k.toNat 0) (by assumption) (show 0≤X.b∧X.b < 6 by rw [hI14];exact hb) hx (show X.out.length≤100000 by omega)) (fun v22 B hv=>?_)
   obtain⟨y23,rfl,y24,rfl⟩:=hv
   refine AR (AB (.t4 0 44 45 46) ?_)
   refine AV (AA (AJ ?_))
   refine Gt (Ay J J (IntWalk.i64_in _ (by first | omega | exact hb.1 | exact hb.2 | (dsimp only;omega)))) ?_
   refine Gm J ?_
   refine AR (AB (.t4 0 44 45 46) ?_)
   refine B2 (k+1) _ _ ?_ ?_ (.t4 46 0 44 45) (.refl _)
   · exact⟨by omega,by omega,by rw [hI13,AE.Ho hI11 (by omega)],hI14,(by rw [AE.F2];show((X.out.length+1:Nat):Int)≤_;omega),by assumption,hI17⟩
   · omega
  have c5p:=kz c5
  obtain rfl:k=((AE.BX (T.box o.second).1.w ((T.box o.second).1.w.has 2 (T.box o.second).2.1) o.nth o.name o.Bq).length:Int):=by omega
  rw [AE.KX] at hI13
  refine Bg (AW (AW (Ah ?_)))
  refine Bs J .n ?_
  intro w1 hS
  have hS:=(hS.perm (Ax.perm (.c .h (.c .h .n)))).A5
  refine⟨_,⟨?gq3,J,?hl3,?hB3⟩,hS⟩
  case hB3=>rw [hI13];rfl
  case hl3=>rw [hI13];exact hI16
 have c1p:=kz c1
 refine Aa ?_
 refine AB (.t3 0 3 4) ?_
 refine AA (Gs (Gm J (Gm J (Gt (Al G2 J) (Gt (AI J A8 .m2 Order.l1 J J) (Gt (Al GR J) (Gt (AI J CO .m2 Order.l3 J J) ?_)))))))
 refine Gt (Al Hn J) (Gt (AI J D3 .m2 Order.l2 J J) ?_)
 refine Ak J RY (.c J (.c J (.c J (.c J (.c J .n))))) (.c .h (.c .h .n)) (FB _ T _ _ T.seen _ _ _ hF (by assumption) (Nat.le_trans T.JS (by decide)) (fun i hi=>AE.QL hi)) (fun v25 B hv=>?_)
 obtain⟨y26,rfl,y27,rfl⟩:=hv
 refine Ga J (Gn (.t2 0 4) (CL (Gm J (Gt (Au J Tryz.underlying169 J) (Gt (Ai J J) (Gn (.t3 0 4 41) ?_))))))
 refine Gc (fun c6=>?_) (fun c6=>?_)
 ·
  have c6p:=kz c6
  rw [y27] at c6
  refine AJ (Gm J ?_)
  refine Ak J EV (.c J (.c J .n)) (.c .h (.c (.t (.t (.t .h))) .n)) (Bi _ T _ _ (by assumption) (by exact hb) (by have:=T.Iq o.second;omega)) (fun v29 B hv=>?_)
  obtain⟨y30,rfl,y31,rfl⟩:=hv
  refine Gn (.t2 0 4) (Gs (Gm J (Gt (Au J Tryz.underlying169 J) (Gm J (Gn (.t4 0 44 45 46) (Ag ?_))))))
  refine Bw (.t4 46 0 44 45) ?_
  refine Be (.t .h) ?_
  refine Be (.t .h) ?_
  refine Dx (fun(k:Int) (X:AE) (h:Hd)=>0≤k∧k≤((AE.BX T.w T.seen o.nth o.name o.Bq).length:Int)∧T.get o=X.DR ((AE.BX T.w T.seen o.nth o.name o.Bq).drop k.toNat)∧X.b=T.b∧(X.out.length:Int)≤T.out.length+2+k∧h.len=X.out.length∧((AE.BX T.w T.seen o.nth o.name o.Bq).length:Int)≤9) (fun(k:Int) (X:AE) (h:Hd)=>(((AE.BX T.w T.seen o.nth o.name o.Bq).length:Int) - k).toNat) (fun(k:Int) (X:AE) (h:Hd)=> [(46, .int .i64 k)]) (fun(k:Int) (X:AE) (h:Hd)=> [Ab.box b 163 (Af.enc ⟨X.w,X.b,h⟩),Ab.own h 56 16 (X.out.flatMap Ing.Event.enc)]) (0) (_) (_) ?_ J J (fun k X h hI1=>?_)
  · exact⟨by omega,by omega,(AX c1).trans (congrArg (fun q=>AE.DR q _) (BG c6)),rfl,by have:=T.Iq o.second;(try simp only [AE.CM]);omega,by assumption,by have:=(AE.El T.w T.seen o.nth o.name o.Bq).length_le;have:=T.JS;omega⟩
  obtain⟨hI11,hI12,hI13,hI14,hI15,hI16,hI17⟩:=hI1
  refine Gs (Gt (BA J J) (AR (AA (Aq ?_))))
  refine Gc (fun c7=>?_) (fun c7=>?_)
  ·
   have c7p:=kz c7
   have hx:0≤(AE.BX T.w T.seen o.nth o.name o.Bq).getD k.toNat 0∧(AE.BX T.w T.seen o.nth o.name o.Bq).getD k.toNat 0 < 9:=(fun i hi=>AE.QL (AE.D6 hi)) _ (Bh.FC (xs:=(AE.BX T.w T.seen o.nth o.name o.Bq)) (i:=k.toNat) (by omega))
   refine Aa ?_
   refine AB (.t4 0 44 45 46) ?_
   refine AA (Aq (Ag (Gs ?_)))
   refine Gt (Bz HL (by decide) (Kn.own .m3) J J (by omega) (by omega)) ?_
   refine Gt (DT J A8 (Kn.own .m3) (by omega)) ?_
   refine Ga J (Gn (.t5 0 8 44 45 46) (Gs (Gm J (Gm J (Gt (Bb J) (Gt (Al BB J) (Gt (Al C6 J) ?_)))))))
   refine Gt (AQ Gq J J (by first | omega | exact hb.1 | exact hb.2 | (dsimp only;omega)) (by first | omega | exact hb.1 | exact hb.2 | (dsimp only;omega))) ?_
   refine Ga J (Gn (.t6 0 8 9 44 45 46) (Gs (Gm J (Gm J (Gm J (Gt (Bb J) (Gt (Al Cb J) ?_)))))))
   refine Gt (AI J A8 .m0 Af.l1 J J) (Gt (Bb J) (Gt (Al Fm J) ?_))
   refine AT (AL (((Af.l0.comp AH.l1).comp (AU.ar (n:=9) An.fl (by first | omega | exact hb | (dsimp only;omega)))).comp An.l2) J J J DO J .h) ?_
   refine Gt (Bb J) (Gt (Al DX J) ?_)
   refine AT (AL (((Af.l0.comp AH.l1).comp (AU.ar (n:=9) An.fl (by first | omega | exact hb | (dsimp only;omega)))).comp An.l3) J J J DO J .h) ?_
   refine Gn (.t5 0 8 44 45 46) ?_
   refine Gw (fun _=> .h) (congrArg (fun q=>Af.enc ⟨q,_,_⟩) (AE.IJ X hx.1 hx.2 1 X.b)) ?_
   refine AJ (Gm J (Gm J ?_))
   refine Ak J Pm (.c J (.c J (.c J .n))) (.c .h (.c .h .n)) (EE _ (X.place ((AE.BX T.w T.seen o.nth o.name o.Bq).getD k.toNat 0) 1 X.b) _ 3 ((AE.BX T.w T.seen o.nth o.name o.Bq).getD k.toNat 0) (by assumption) (show 0≤X.b∧X.b < 6 by rw [hI14];exact hb) hx (show X.out.length≤100000 by omega)) (fun v32 B hv=>?_)
   obtain⟨y33,rfl,y34,rfl⟩:=hv
   refine AR (AB (.t4 0 44 45 46) ?_)
   refine AV (AA (AJ ?_))
   refine Gt (Ay J J (IntWalk.i64_in _ (by first | omega | exact hb.1 | exact hb.2 | (dsimp only;omega)))) ?_
   refine Gm J ?_
   refine AR (AB (.t4 0 44 45 46) ?_)
   refine B2 (k+1) _ _ ?_ ?_ (.t4 46 0 44 45) (.refl _)
   · exact⟨by omega,by omega,by rw [hI13,AE.Ho hI11 (by omega)],hI14,(by rw [AE.F2];show((X.out.length+1:Nat):Int)≤_;omega),by assumption,hI17⟩
   · omega
  have c7p:=kz c7
  obtain rfl:k=((AE.BX T.w T.seen o.nth o.name o.Bq).length:Int):=by omega
  rw [AE.KX] at hI13
  refine Bg (AW (AW (Ah ?_)))
  refine Bs J .n ?_
  intro w1 hS
  have hS:=(hS.perm (Ax.perm (.c .h (.c .h .n)))).A5
  refine⟨_,⟨?gq4,J,?hl4,?hB4⟩,hS⟩
  case hB4=>rw [hI13];rfl
  case hl4=>rw [hI13];exact hI16
 have c6p:=kz c6
 rw [y27] at c6
 refine Aa ?_
 refine AB (.t2 0 4) ?_
 refine AA (Gs (Gm J (Gt (Au J Tryz.underlying169 J) (Gm J (Gn (.t4 0 44 45 46) (Ag ?_))))))
 refine Bw (.t4 46 0 44 45) ?_
 refine Be (.t (.t (.t (.t .h)))) ?_
 refine Be (.t .h) ?_
 refine Dx (fun(k:Int) (X:AE) (h:Hd)=>0≤k∧k≤((AE.BX T.w T.seen o.nth o.name o.Bq).length:Int)∧T.get o=X.DR ((AE.BX T.w T.seen o.nth o.name o.Bq).drop k.toNat)∧X.b=T.b∧(X.out.length:Int)≤T.out.length+2+k∧h.len=X.out.length∧((AE.BX T.w T.seen o.nth o.name o.Bq).length:Int)≤9) (fun(k:Int) (X:AE) (h:Hd)=>(((AE.BX T.w T.seen o.nth o.name o.Bq).length:Int) - k).toNat) (fun(k:Int) (X:AE) (h:Hd)=> [(46, .int .i64 k)]) (fun(k:Int) (X:AE) (h:Hd)=> [Ab.box b 163 (Af.enc ⟨X.w,X.b,h⟩),Ab.own h 56 16 (X.out.flatMap Ing.Event.enc)]) (0) (_) (_) ?_ J J (fun k X h hI1=>?_)
 · exact⟨by omega,by omega,(AX c1).trans (congrArg (fun q=>AE.DR q _) (AX c6)),rfl,by have:=T.Iq o.second;(try simp only [AE.CM]);omega,by assumption,by have:=(AE.El T.w T.seen o.nth o.name o.Bq).length_le;have:=T.JS;omega⟩
 obtain⟨hI11,hI12,hI13,hI14,hI15,hI16,hI17⟩:=hI1
 refine Gs (Gt (BA J J) (AR (AA (Aq ?_))))
 refine Gc (fun c8=>?_) (fun c8=>?_)
 ·
  have c8p:=kz c8
  have hx:0≤(AE.BX T.w T.seen o.nth o.name o.Bq).getD k.toNat 0∧(AE.BX T.w T.seen o.nth o.name o.Bq).getD k.toNat 0 < 9:=(fun i hi=>AE.QL (AE.D6 hi)) _ (Bh.FC (xs:=(AE.BX T.w T.seen o.nth o.name o.Bq)) (i:=k.toNat) (by omega))
  refine Aa ?_
  refine AB (.t4 0 44 45 46) ?_
  refine AA (Aq (Ag (Gs ?_)))
  refine Gt (Bz HL (by decide) (Kn.own .m3) J J (by omega) (by omega)) ?_
  refine Gt (DT J A8 (Kn.own .m3) (by omega)) ?_
  refine Ga J (Gn (.t5 0 8 44 45 46) (Gs (Gm J (Gm J (Gt (Bb J) (Gt (Al BB J) (Gt (Al C6 J) ?_)))))))
  refine Gt (AQ Gq J J (by first | omega | exact hb.1 | exact hb.2 | (dsimp only;omega)) (by first | omega | exact hb.1 | exact hb.2 | (dsimp only;omega))) ?_
  refine Ga J (Gn (.t6 0 8 9 44 45 46) (Gs (Gm J (Gm J (Gm J (Gt (Bb J) (Gt (Al Cb J) ?_)))))))
  refine Gt (AI J A8 .m0 Af.l1 J J) (Gt (Bb J) (Gt (Al Fm J) ?_))
  refine AT (AL (((Af.l0.comp AH.l1).comp (AU.ar (n:=9) An.fl (by first | omega | exact hb | (dsimp only;omega)))).comp An.l2) J J J DO J .h) ?_
  refine Gt (Bb J) (Gt (Al DX J) ?_)
  refine AT (AL (((Af.l0.comp AH.l1).comp (AU.ar (n:=9) An.fl (by first | omega | exact hb | (dsimp only;omega)))).comp An.l3) J J J DO J .h) ?_
  refine Gn (.t5 0 8 44 45 46) ?_
  refine Gw (fun _=> .h) (congrArg (fun q=>Af.enc ⟨q,_,_⟩) (AE.IJ X hx.1 hx.2 1 X.b)) ?_
  refine AJ (Gm J (Gm J ?_))
  refine Ak J Pm (.c J (.c J (.c J .n))) (.c .h (.c .h .n)) (EE _ (X.place ((AE.BX T.w T.seen o.nth o.name o.Bq).getD k.toNat 0) 1 X.b) _ 3 ((AE.BX T.w T.seen o.nth o.name o.Bq).getD k.toNat 0) (by assumption) (show 0≤X.b∧X.b < 6 by rw [hI14];exact hb) hx (show X.out.length≤100000 by omega)) (fun v35 B hv=>?_)
  obtain⟨y36,rfl,y37,rfl⟩:=hv
  refine AR (AB (.t4 0 44 45 46) ?_)
  refine AV (AA (AJ ?_))
  refine Gt (Ay J J (IntWalk.i64_in _ (by first | omega | exact hb.1 | exact hb.2 | (dsimp only;omega)))) ?_
  refine Gm J ?_
  refine AR (AB (.t4 0 44 45 46) ?_)
  refine B2 (k+1) _ _ ?_ ?_ (.t4 46 0 44 45) (.refl _)
  · exact⟨by omega,by omega,by rw [hI13,AE.Ho hI11 (by omega)],hI14,(by rw [AE.F2];show((X.out.length+1:Nat):Int)≤_;omega),by assumption,hI17⟩
  · omega
 have c8p:=kz c8
 obtain rfl:k=((AE.BX T.w T.seen o.nth o.name o.Bq).length:Int):=by omega
 rw [AE.KX] at hI13
 refine Bg (AW (AW (Ah ?_)))
 refine Bs J .n ?_
 intro w1 hS
 have hS:=(hS.perm (Ax.perm (.c .h (.c .h .n)))).A5
 refine⟨_,⟨?gq5,J,?hl5,?hB5⟩,hS⟩
 case hB5=>rw [hI13];rfl
 case hl5=>rw [hI13];exact hI16
theorem Nh (X:AH)(i box:Int)(w:World):Ev Tryz.prog 137 #[.agg X.enc.toArray, .int .i64 i, .int .i64 box] w fun v w'=>v = .bool (X.Vt i box)∧CH w w':=by
 refine Ap [] [] Tryz.func137 J J J (St.start w []) ?_
 refine Gs ?_
 refine CB J J J (fun b1=>?_)
 refine Ga J (Gn (.t3 1 2 3) (CL (Gm J (AR (AA (Ag ?_))))))
 refine Bw (.t4 1 7 2 3) ?_
 refine Hw (fun(k:Int) (j:Int)=>0≤k∧k≤10∧X.Vt i box=X.inside box (10 - k).toNat j) (fun(k:Int) (j:Int)=>(10 - k).toNat) (fun(k:Int) (j:Int)=> [(1, .int .i64 j),(7, .int .i64 k)]) (fun(k:Int) (j:Int)=> []) (0) (i) ?_ J J (fun k j hI1=>?_)
 · exact⟨Int.le_refl _,by omega,rfl⟩
 obtain⟨hI11,hI12,hI13⟩:=hI1
 refine Gs (Gt (BA J J) (AR (AA (Aq ?_))))
 refine Gc (fun c1=>?_) (fun c1=>?_)
 ·
  have c1p:=kz c1
  rw [show(10 - k).toNat=(10 - (k+1)).toNat+1 from by omega,AH.inside] at hI13
  refine Aa ?_
  refine AB (.t4 1 2 3 7) ?_
  refine AA (Aq (Ag (CL (Gm J (Gm J (Gt (Ai J J) (Gn (.t5 1 2 3 7 11) ?_)))))))
  refine Gc (fun c2=>?_) (fun c2=>?_)
  ·
   refine Gs (Ga J (Gn (.t1 6) (Ac (AD (AS (AD (AD ?_)))))))
   refine AS (AD ?_)
   refine AY J (.tmp J .n) ?_
   intro w1 hS;refine⟨congrArg Value.bool ?_,hS.Ao⟩;rw [hI13];simp only [c1,c2,↓reduceIte,Bool.false_eq_true]
  have c2p:=kz c2
  refine Aa ?_
  refine AB (.t4 1 2 3 7) ?_
  refine AA (CL (Gm J (Gt (BA J J) (Gm J (Bj 14 J J (fun q=>AF J) (Bj 14 J J (fun q=>CZ (cF J q) J) ?_))))))
  refine Gt (Ba J J (fun h=>by rw [h];rfl)) ?_
  refine Gm J (Bj 18 J J (fun q=>AF J) (Bj 18 J J (fun q=>Al C6 J) ?_))
  refine Bj 18 J J (fun q=>by have q1:=q;(try simp at q1);exact AQ Gq (cF rfl q) (cF rfl q) (by omega) (by omega)) ?_
  refine Bj 18 J J (fun q=>Al Fm (cF J q)) ?_
  refine Bj 18 J J (fun q=>by have q1:=q;(try simp at q1);exact AI (cF rfl q) A8 .m0 ((AH.l1.comp (AU.ar (n:=9) An.fl (by omega))).comp An.l2) rfl rfl) ?_
  refine Bj 18 J J (fun q=>Cm (cF J q) J) ?_
  refine Gt (Ba J J (fun h=>by rw [h];rfl)) ?_
  refine Gn (.t5 1 2 3 7 25) ?_
  refine Gc (fun c3=>?_) (fun c3=>?_)
  ·
   refine Gs (Ga J (Gn (.t1 6) (Ac (AD (AS (AD (AD ?_)))))))
   refine AS (AD ?_)
   refine AY J (.tmp J .n) ?_
   intro w1 hS;refine⟨congrArg Value.bool ?_,hS.Ao⟩;rw [hI13];simp only [c1,c2,c3,↓reduceIte,Bool.false_eq_true]
  have c3p:=kz c3
  have h9:0≤j∧j < 9:=by simp at c3;omega
  refine Aa ?_
  refine AB (.t4 1 2 3 7) ?_
  refine AA (AJ (Gm J (Gt (Al C6 J) ?_)))
  refine Gt (AQ Gq J J (by omega) (by omega)) ?_
  refine Gt (Al DX J) ?_
  refine Gt (AI J A8 .m0 ((AH.l1.comp (AU.ar (n:=9) An.fl (by omega))).comp An.l3) J J) ?_
  refine Ga J ?_
  refine AR (AB (.t4 1 2 3 7) ?_)
  refine AV (AA (AJ ?_))
  refine Gt (Ay J J (IntWalk.i64_in _ (by omega))) ?_
  refine Gm J ?_
  refine AR (AB (.t4 1 2 3 7) ?_)
  refine Dt (k+1) ((X.AP.at j).at_) ?_ ?_ (.t4 1 7 2 3) (.refl _)
  · exact⟨by omega,by omega,by rw [hI13];simp only [c1,c2,c3,↓reduceIte,Bool.false_eq_true]⟩
  · omega
 have c1p:=kz c1
 obtain rfl:k=10:=by omega
 refine Bg (AW (AW (Ah ?_)))
 refine AB (.nil _) ?_
 refine AA (Gs (Ga J (AR (AA (Ac ?_)))))
 refine AY J (.tmp J .n) ?_
 intro w1 hS;refine⟨congrArg Value.bool ?_,hS.Ao⟩;rw [hI13];rfl
theorem S6 (b:Nat)(T:AE)(g:Hd)(o:Order)(hg:g.len=T.out.length)(hF:T.Fit)(hv:o.verb=8∨o.verb=9∨o.verb=10)(hu:o.second.length≤5000000)(hn:T.out.length≤90000):FO Tryz.prog 106 #[.pointer (some ⟨b,0,none⟩), .agg o.enc.toArray] [Ab.box b 163 (Af.enc ⟨T.w,T.b,g⟩),Ab.own g 56 16 (T.out.flatMap Ing.Event.enc)] (fun w=>(HP 7 w∧7 ∉ Ch [Ab.box b 163 (Af.enc ⟨T.w,T.b,g⟩),Ab.own g 56 16 (T.out.flatMap Ing.Event.enc)])∧(HP 8 w∧8 ∉ Ch [Ab.box b 163 (Af.enc ⟨T.w,T.b,g⟩),Ab.own g 56 16 (T.out.flatMap Ing.Event.enc)])) (fun v B=>∃ g':Hd,v = .tuple #[]∧g'.len=(T.FV o).out.length∧B = [Ab.box b 163 (Af.enc ⟨(T.FV o).w,(T.FV o).b,g'⟩),Ab.own g' 56 16 ((T.FV o).out.flatMap Ing.Event.enc)]):=by
 intro w hS0 hH
 obtain⟨⟨gl0,gm0⟩,⟨gl1,gm1⟩⟩:=hH
 have hb:=hF.b
 have hr:=hF.room
 refine Ap _ _ Tryz.func106 J J J (hS0) ?_
 refine Gs ?_
 refine CB J J J (fun b1=>?_)
 refine Gn (.t2 0 3) (Gs (Ga J (Ga J (AR (AA ?_)))))
 refine Be (.t (.t .h)) ?_
 refine Be (.t (.t .h)) ?_
 refine bw (Lm:= [_,_]) (fun(X:AE) (to:Int) (p:Bool) (j:Hd)=>X=(T.C0 o).1∧to=(T.C0 o).2.1∧p=(T.C0 o).2.2∧j.len=X.out.length) (fun(X:AE) (to:Int) (p:Bool) (j:Hd)=> [(4, .int .i64 to),(5, .bool p)]) (fun(X:AE) (to:Int) (p:Bool) (j:Hd)=> [Ab.box b 163 (Af.enc ⟨X.w,X.b,j⟩),Ab.own j 56 16 (X.out.flatMap Ing.Event.enc)]) (.t2 0 3) J ?_ (fun X to p j hC=>?_)
 ·
  refine Gs (Gt (Al DQ J) (Gt (AI J A8 .m2 Order.l0 J J) (Gn (.t5 0 3 4 5 11) (Ag (Gs (Gt (Ai J J) (Ga J ?_)))))))
  refine Gn (.t6 0 3 4 5 11 12) ?_
  refine Gc (fun c1=>?_) (fun c1=>?_)
  ·
   have c1p:=kz c1
   refine AJ (Gm J (Gt (Al Im J) (Gt (AI J CO .m2 Order.l4 J J) ?_)))
   refine BL J dY (.c J (.c J .n)) (.c .h (.c .h .n)) (Nr _ T _ _ hg hF hu (by omega)) (fun w hS=>⟨gl0.pull gm0 hS (.c .h (.c .h .n)),gl1.pull gm1 hS (.c .h (.c .h .n))⟩) (fun v1 B hv=>?_)
   obtain⟨y2,rfl,y3,rfl⟩:=hv
   refine Gm J (Gt (AM J J) (Gt (AM J J) (Ga J (Ga J ?_))))
   refine AR (AB (.t4 0 3 4 5) ?_)
   refine AV ?_
   refine Rj _ _ _ _ ?_ (.t4 4 5 0 3) (.refl _)
   · have ht:T.C0 o=_:=BG c1
     exact⟨by rw [ht],by rw [ht],by rw [ht],by assumption⟩
  have c1p:=kz c1
  refine Gs (Gt (Ai J J) (Ga J (Gn (.t5 0 3 4 5 21) ?_)))
  refine Gc (fun c2=>?_) (fun c2=>?_)
  ·
   have c2p:=kz c2
   refine AJ (Gm J (Gt (Al Im J) (Gt (AI J CO .m2 Order.l4 J J) ?_)))
   refine BL J dF (.c J (.c J .n)) (.c .h (.c .h .n)) (JC _ T _ _ hg hF hu (by omega)) (fun w hS=>⟨gl0.pull gm0 hS (.c .h (.c .h .n)),gl1.pull gm1 hS (.c .h (.c .h .n))⟩) (fun v4 B hv=>?_)
   obtain⟨y5,rfl,y6,rfl⟩:=hv
   refine Gm J (Gt (AM J J) (Gt (AM J J) (Ga J (Ga J ?_))))
   refine AR (AB (.t4 0 3 4 5) ?_)
   refine AV ?_
   refine Rj _ _ _ _ ?_ (.t4 4 5 0 3) (.refl _)
   · have ht:T.C0 o=_:=(AX c1).trans (BG c2)
     exact⟨by rw [ht],by rw [ht],by rw [ht],by assumption⟩
  have c2p:=kz c2
  refine Aa ?_
  refine AB (.t4 0 3 4 5) ?_
  refine AV ?_
  refine Rj _ _ _ _ ?_ (.t4 4 5 0 3) (.refl _)
  · have ht:T.C0 o=_:=(AX c1).trans (AX c2)
    exact⟨by rw [ht],by rw [ht],by rw [ht],by assumption⟩
 obtain⟨hD1,hD2,hD3,hD4⟩:=hC
 have hXw:=T.Wq o
 have hXo:X.out.length≤T.out.length+1:=by rw [hD1];exact T.RG o
 rw [← hD1] at hXw
 have hXF:X.Fit:=hF.Ew hXw.1 hXw.2
 have hPl:((AE.BX X.w X.own o.nth o.name o.Bq)).length≤9:=AE.Sv.2.2
 refine CL (Gm J (Gt (BZ J) (Gn (.t4 0 3 4 31) ?_)))
 refine Gc (fun c3=>?_) (fun c3=>?_)
 ·
  refine Ac (AD ?_)
  refine AY J .n ?_
  intro w1 hS
  have hS:=(hS.perm (Ax.perm (.c .h (.c .h .n)))).A5
  have hq:T.FV o=X:=AE.YB hD1 hD3 c3
  refine⟨_,⟨?gq1,J,?hl1,?hB1⟩,hS⟩
  case hB1=>rw [hq];(try rfl)
  case hl1=>rw [hq];exact hD4
 have c3p:=kz c3
 obtain⟨hgo,hn0,hn9,hok⟩:=AE.Vn hD1 hD2 hD3 c3
 refine Aa ?_
 refine AB (.t3 0 3 4) ?_
 refine AA (Aq ?_)
 refine BE (N:=11) [0,0,2,0,8,0,32,0,128,511,1023] mix (by kernel_rfl) J ?_
 refine Pf 0 J (AF J) (Pf 1 J (AF J) (Pf 3 J (Al G2 J) (Pf 4 J (AI J A8 .m2 Order.l1 J J) (Pf 5 J (Al GR J) (Pf 6 J (AI J CO .m2 Order.l3 J J) (Pf 7 J (Al Hn J) (Pf 8 J (AI J D3 .m2 Order.l2 J J) ?_)))))))
 refine Aj 2 J (by kernel_rfl) ?_
 refine Ak J WU (.c J .n) (.c .h .n) (Ib _ X _ hXF) (fun v7 B hv=>?_)
 obtain⟨y8,rfl,y9,rfl⟩:=hv
 refine Bu J ⟨?_,?_⟩
 · exact(Po J (AI J D3 .m3 Order.l2 J J) J J (Po J (Al Hn J) J J (Po J (AI J CO .m3 Order.l3 J J) J J (Po J (Al GR J) J J (Po J (AI J A8 .m3 Order.l1 J J) J J (Po J (Al G2 J) J J (Pk (Po J (AF J) J J As))))))))
 refine Aj 9 J (by kernel_rfl) ?_
 refine Ak J RY (.c J (.c J (.c J (.c J (.c J .n))))) (.c .h (.c .h .n)) (FB _ X _ _ X.own _ _ _ hXF (by assumption) (Nat.le_trans X.K6 (by decide)) (fun i hi=>AE.Ml hi)) (fun v11 B hv=>?_)
 obtain⟨y12,rfl,y13,rfl⟩:=hv
 refine Bu J ⟨?_,?_⟩
 · exact(Pk (Pk (Pk (Pk (Pk (Pk (Pk (Pk As))))))))
 refine Pf 10 J (A0 J) ?_
 refine A2 (by kernel_rfl) ?_
 refine AB (.t4 0 3 4 6) ?_
 refine AA ?_
 refine Be (.t (.t (.t .h))) ?_
 refine Be (.t .h) ?_
 refine SK (Lm:= [_,_]) (fun(Z:AE) (m:Hd)=>Z=X.Si o∧m.len=Z.out.length) (fun(Z:AE) (m:Hd)=> []) (fun(Z:AE) (m:Hd)=> [Ab.box b 163 (Af.enc ⟨Z.w,Z.b,m⟩),Ab.own m 56 16 (Z.out.flatMap Ing.Event.enc)]) (.t4 0 3 4 6) J ?_ (fun Z m hC=>?_)
 ·
  refine Gs (Gm J (Gt (Au J Tryz.underlying169 J) (Gt (Ai J J) (Gn (.t5 0 3 4 6 44) ?_))))
  refine Gc (fun c4=>?_) (fun c4=>?_)
  ·
   have c4p:=kz c4
   rw [y13] at c4
   refine AJ (Gm J ?_)
   refine Ak J EV (.c J (.c J .n)) (.c .h (.c .h .n)) (Bi _ X _ _ (by assumption) (by rw [hXw.2];exact hb) (by omega)) (fun v15 B hv=>?_)
   obtain⟨y16,rfl,y17,rfl⟩:=hv
   refine AR (AB (.t4 0 3 4 6) ?_)
   refine Er _ _ ?_ (.t4 0 3 4 6) (.refl _)
   · exact⟨(AE.ey (T:=X) (o:=o) c4).symm,by assumption⟩
  rw [y13] at c4
  refine Aa ?_
  refine AB (.t4 0 3 4 6) ?_
  refine Er _ _ ?_ (.t4 0 3 4 6) (.refl _)
  · exact⟨(AE.eJ (T:=X) (o:=o) c4).symm,by exact hD4⟩
 obtain⟨hE1,hE2⟩:=hC
 refine Gs (Gm J (Gt (Au J Tryz.underlying169 J) (Gm J (Gn (.t6 0 3 4 47 48 49) (Ag ?_)))))
 refine Bw (.t6 49 0 3 4 47 48) ?_
 refine Be (.t .h) ?_
 refine Be (.t .h) ?_
 refine Dx (fun(k:Int) (V:AE) (f:Hd)=>0≤k∧V=X.SD to o k.toNat∧k≤((AE.BX X.w X.own o.nth o.name o.Bq).length:Int)∧f.len=V.out.length) (fun(k:Int) (V:AE) (f:Hd)=>(((AE.BX X.w X.own o.nth o.name o.Bq).length:Int) - k).toNat) (fun(k:Int) (V:AE) (f:Hd)=> [(49, .int .i64 k)]) (fun(k:Int) (V:AE) (f:Hd)=> [Ab.box b 163 (Af.enc ⟨V.w,V.b,f⟩),Ab.own f 56 16 (V.out.flatMap Ing.Event.enc)]) (0) (_) (_) ?_ J J (fun k V f hI1=>?_)
 · exact⟨by omega,hE1,by omega,hE2⟩
 obtain⟨hI11,hI12,hI13,hI14⟩:=hI1
 refine Gs (Gt (BA J J) (AR (AA (Aq ?_))))
 refine Gc (fun c5=>?_) (fun c5=>?_)
 ·
  have c5p:=kz c5
  have hx:0≤((AE.BX X.w X.own o.nth o.name o.Bq).getD k.toNat 0)∧((AE.BX X.w X.own o.nth o.name o.Bq).getD k.toNat 0) < 9:=AE.Ml (AE.D6 (Bh.FC (xs:=(AE.BX X.w X.own o.nth o.name o.Bq)) (i:=k.toNat) (by omega)))
  have hVK:=AE.aJ X to o k.toNat
  rw [← hI12] at hVK
  have hVb:=hVK.2
  have hVo:=hVK.1
  have hbV:0≤V.b∧V.b < 6:=by rw [hVb,hXw.2];exact hb
  refine Aa ?_
  refine AB (.t6 0 3 4 47 48 49) ?_
  refine AA (Aq (Ag (Gs ?_)))
  refine Gt (Bz HL (by decide) (Kn.own .m3) J J (by omega) (by omega)) ?_
  refine Gt (DT J A8 (Kn.own .m3) (by omega)) ?_
  refine Ga J (Gn (.t7 0 3 4 8 47 48 49) (Gs (Gm J (Gm J (Gt (Bb J) (Gt (Al BB J) (Gt (Al C6 J) ?_)))))))
  refine Gt (AQ Gq J J (by first | omega | exact hbV.1 | exact hbV.2 | (dsimp only;omega)) (by first | omega | exact hbV.1 | exact hbV.2 | (dsimp only;omega))) ?_
  refine Ga J (Gn (.t8 0 3 4 8 9 47 48 49) (Ag (Gs (Gm J (Gt (Bb J) (Gt (Al HR J) ?_))))))
  refine Gt (AI J A8 .m0 (((Af.l0.comp AH.l1).comp (AU.ar (n:=9) An.fl (by first | omega | exact hbV | (dsimp only;omega)))).comp An.l1) J J) ?_
  refine Gt (Ai J J) (Gm J (Bp 87 J J (fun q=>AF J) (Bp 87 J J (fun q=>Bb (Bo J q)) (Bp 87 J J (fun q=>Al Gi (Bo J q)) ?_))))
  refine Bp 87 J J (fun q=>by have q1:=q;(try simp at q1);exact AI (Bo rfl q) D3 .m0 (((Af.l0.comp AH.l1).comp (AU.ar (n:=9) An.fl (by first | omega | exact hbV | (dsimp only;omega)))).comp An.l4) rfl rfl) ?_
  refine Gt (BQ J J (fun h=>h)) (Ga J (Gn (.t9 0 3 4 8 9 47 48 49 81) ?_))
  refine Gc (fun c6=>?_) (fun c6=>?_)
  ·
   have c6p:=kz c6
   refine AJ (Gm J ?_)
   refine Ak J EV (.c J (.c J .n)) (.c .h (.c .h .n)) (Bi _ V _ _ (by assumption) hbV (by omega)) (fun v18 B hv=>?_)
   obtain⟨y19,rfl,y20,rfl⟩:=hv
   refine AR (AB (.t6 0 3 4 47 48 49) ?_)
   refine AV (AV (AA (AJ ?_)))
   refine Gt (Ay J J (IntWalk.i64_in _ (by first | omega | exact hbV.1 | exact hbV.2 | (dsimp only;omega)))) ?_
   refine Gm J ?_
   refine AR (AB (.t6 0 3 4 47 48 49) ?_)
   refine B2 (k+1) _ _ ?_ ?_ (.t6 49 0 3 4 47 48) (.refl _)
   · have hq:V.Cz o.verb to ((AE.BX X.w X.own o.nth o.name o.Bq).getD k.toNat 0)=_:=(BG c6)
     (try rw [AE.EG hx.1 hx.2] at *)
     (try rw [AE.Ds hx.1 hx.2 hn0] at *)
     exact⟨by omega,(by(try rw [AE.EG hx.1 hx.2]);(try rw [AE.Ds hx.1 hx.2 hn0]);exact hq.symm.trans ((congrArg (fun q=>AE.Cz q o.verb to ((AE.BX X.w X.own o.nth o.name o.Bq).getD k.toNat 0)) hI12).trans (AE.JF hI11 (by show k < (((AE.BX X.w X.own o.nth o.name o.Bq)).length:Int);omega)).symm)),by omega,by assumption⟩
   · omega
  have c6p:=kz c6
  refine Gs (Gt (Al DQ J) (Gt (AI J A8 .m4 Order.l0 J J) (Gt (Ai J J) (Ga J (Gn (.t9 0 3 4 8 9 47 48 49 95) ?_)))))
  refine Gc (fun c7=>?_) (fun c7=>?_)
  ·
   have c7p:=kz c7
   refine Aq ?_
   refine BE (N:=19) [0,0,0,0,8,24,56,4,132,388,1020,2044,4092,8189,16381,32765,65535,131071,262143] mix (by kernel_rfl) J ?_
   refine Pf 0 J (AF J) (Pf 1 J (AF J) (Pf 2 J (AF J) (Pf 3 J (AF J) (Pf 4 J (Bb J) (Pf 5 J (Al Cb J) (Pf 6 J (AI J A8 .m0 Af.l1 J J) (Pf 7 J (Bb J) ?_)))))))
   refine Pf 8 J (Al BB J) (Pf 9 J (Al Bx J) ?_)
   refine Pf 10 J (AQ DI J J (by first | omega | exact hbV.1 | exact hbV.2 | (dsimp only;omega)) (by first | omega | exact hbV.1 | exact hbV.2 | (dsimp only;omega))) ?_
   refine Pf 11 J (Al DE J) ?_
   refine Pf 12 J (AI J A8 .m0 (((Af.l0.comp AH.l2).comp (AU.ar (n:=6) Am.fl (by first | omega | exact hbV | (dsimp only;omega)))).comp Am.l3) J J) ?_
   refine Pf 13 J (Bb J) (Pf 14 J (Al Fm J) ?_)
   refine Aj 15 J (by kernel_rfl) ?_
   refine AT (AL (((Af.l0.comp AH.l1).comp (AU.ar (n:=9) An.fl (by first | omega | exact hbV | (dsimp only;omega)))).comp An.l2) J J J DO J .h) ?_
   refine BO J ⟨?_,?_⟩
   · exact(Pk (Pk (Pk (Pk (Pk (Pk (Pk (Pk (Pk (Pk (Pk (Pk (Pk (Po J (AF J) J J (Pk As)))))))))))))))
   refine Pf 16 J (Bb J) (Pf 17 J (Al DX J) ?_)
   refine Aj 18 J (by kernel_rfl) ?_
   refine AT (AL (((Af.l0.comp AH.l1).comp (AU.ar (n:=9) An.fl (by first | omega | exact hbV | (dsimp only;omega)))).comp An.l3) J J J DO J .h) ?_
   refine BO J ⟨?_,?_⟩
   · exact(Pk (Pk (Pk (Pk (Pk (Pk (Pk (Pk (Pk (Pk (Pk (Pk (Pk (Pk (Pk (Pk (Pk As)))))))))))))))))
   refine A2 (by kernel_rfl) ?_
   refine AB (.t7 0 3 4 8 47 48 49) ?_
   refine AA ?_
   refine Gw (fun _=> .h) (congrArg (fun q=>Af.enc ⟨q,_,_⟩) (AE.IJ V hx.1 hx.2 0 (V.w.AO.at V.b).room)) ?_
   refine AJ (Gm J (Gm J ?_))
   refine Ak J Pm (.c J (.c J (.c J .n))) (.c .h (.c .h .n)) (EE _ (V.place ((AE.BX X.w X.own o.nth o.name o.Bq).getD k.toNat 0) 0 (V.w.AO.at V.b).room) _ 4 ((AE.BX X.w X.own o.nth o.name o.Bq).getD k.toNat 0) (by assumption) hbV hx (show V.out.length≤100000 by omega)) (fun v21 B hv=>?_)
   obtain⟨y22,rfl,y23,rfl⟩:=hv
   refine AR (AB (.t6 0 3 4 47 48 49) ?_)
   refine AV (AV (AA (AJ ?_)))
   refine Gt (Ay J J (IntWalk.i64_in _ (by first | omega | exact hbV.1 | exact hbV.2 | (dsimp only;omega)))) ?_
   refine Gm J ?_
   refine AR (AB (.t6 0 3 4 47 48 49) ?_)
   refine B2 (k+1) _ _ ?_ ?_ (.t6 49 0 3 4 47 48) (.refl _)
   · have hq:V.Cz o.verb to ((AE.BX X.w X.own o.nth o.name o.Bq).getD k.toNat 0)=_:=((AX c6).trans (BG c7))
     (try rw [AE.EG hx.1 hx.2] at *)
     (try rw [AE.Ds hx.1 hx.2 hn0] at *)
     exact⟨by omega,(by(try rw [AE.EG hx.1 hx.2]);(try rw [AE.Ds hx.1 hx.2 hn0]);exact hq.symm.trans ((congrArg (fun q=>AE.Cz q o.verb to ((AE.BX X.w X.own o.nth o.name o.Bq).getD k.toNat 0)) hI12).trans (AE.JF hI11 (by show k < (((AE.BX X.w X.own o.nth o.name o.Bq)).length:Int);omega)).symm)),by omega,by assumption⟩
   · omega
  have c7p:=kz c7
  refine Gs (Gt (Al DQ J) (Gt (AI J A8 .m4 Order.l0 J J) (Gt (Ai J J) (Ga J (Gn (.t9 0 3 4 8 9 47 48 49 119) ?_)))))
  refine Gc (fun c8=>?_) (fun c8=>?_)
  ·
   have c8p:=kz c8
   refine Gs (Gm J (Gm J (Gm J (Gt (Bb J) (Gt (Al Fm J) ?_)))))
   refine AT (AL (((Af.l0.comp AH.l1).comp (AU.ar (n:=9) An.fl (by first | omega | exact hbV | (dsimp only;omega)))).comp An.l2) J J J DO J .h) ?_
   refine Gt (Bb J) (Gt (Al DX J) ?_)
   refine AT (AL (((Af.l0.comp AH.l1).comp (AU.ar (n:=9) An.fl (by first | omega | exact hbV | (dsimp only;omega)))).comp An.l3) J J J DO J .h) ?_
   refine Gn (.t7 0 3 4 9 47 48 49) ?_
   refine Gw (fun _=> .h) (congrArg (fun q=>Af.enc ⟨q,_,_⟩) (AE.IJ V hx.1 hx.2 1 to)) ?_
   refine AJ (Gm J (Gm J (Gm J (Gt (Bb J) (Gt (Al NC J) ?_)))))
   refine Gt (AI J CO .m0 (((Af.l0.comp AH.l1).comp (AU.ar (n:=9) An.fl (by first | omega | exact hbV | (dsimp only;omega)))).comp An.l0) J J) ?_
   refine Gt (BF QW JE J (.cons Ing.Event.l0 J J J (.cons Ing.Event.l3 J J J (.cons Ing.Event.l8 J J J .nil)))) ?_
   refine Ak J Pw (.c J (.c J .n)) (.c .h (.c .h .n)) (CY _ (V.place ((AE.BX X.w X.own o.nth o.name o.Bq).getD k.toNat 0) 1 to) _ { AE.GF 6 with other:=to,BM:=((V.place ((AE.BX X.w X.own o.nth o.name o.Bq).getD k.toNat 0) 1 to).w.AP.at ((AE.BX X.w X.own o.nth o.name o.Bq).getD k.toNat 0)).name } (by assumption) hbV (show to < 6 from(hok hv).j8 (by omega)) (show V.out.length≤100000 by omega)) (fun v24 B hv=>?_)
   obtain⟨y25,rfl,y26,rfl⟩:=hv
   refine AR (AB (.t6 0 3 4 47 48 49) ?_)
   refine AV (AV (AA (AJ ?_)))
   refine Gt (Ay J J (IntWalk.i64_in _ (by first | omega | exact hbV.1 | exact hbV.2 | (dsimp only;omega)))) ?_
   refine Gm J ?_
   refine AR (AB (.t6 0 3 4 47 48 49) ?_)
   refine B2 (k+1) _ _ ?_ ?_ (.t6 49 0 3 4 47 48) (.refl _)
   · have hq:V.Cz o.verb to ((AE.BX X.w X.own o.nth o.name o.Bq).getD k.toNat 0)=_:=((AX c6).trans ((AX c7).trans (BG c8)))
     (try rw [AE.EG hx.1 hx.2] at *)
     (try rw [AE.Ds hx.1 hx.2 hn0] at *)
     exact⟨by omega,(by(try rw [AE.EG hx.1 hx.2]);(try rw [AE.Ds hx.1 hx.2 hn0]);exact hq.symm.trans ((congrArg (fun q=>AE.Cz q o.verb to ((AE.BX X.w X.own o.nth o.name o.Bq).getD k.toNat 0)) hI12).trans (AE.JF hI11 (by show k < (((AE.BX X.w X.own o.nth o.name o.Bq)).length:Int);omega)).symm)),by omega,by assumption⟩
   · omega
  have c8p:=kz c8
  refine Gs (Gm J (Gt (Bb J) (Gt (Al BB J) (Gt (AZ J Bf .m0 Af.l0 J) (Gm J (Gm J ?_))))))
  refine BC J fY (.c J (.c J (.c J .n))) (fun w hS=>Nh _ _ _ w) ?_
  refine Ga J (Gn (.t8 0 3 4 9 47 48 49 138) ?_)
  refine Gc (fun c9=>?_) (fun c9=>?_)
  ·
   have c9p:=kz c9
   refine AJ (Gm J ?_)
   refine Ak J EV (.c J (.c J .n)) (.c .h (.c .h .n)) (Bi _ V _ _ (by assumption) hbV (by omega)) (fun v27 B hv=>?_)
   obtain⟨y28,rfl,y29,rfl⟩:=hv
   refine AR (AB (.t6 0 3 4 47 48 49) ?_)
   refine AV (AV (AA (AJ ?_)))
   refine Gt (Ay J J (IntWalk.i64_in _ (by first | omega | exact hbV.1 | exact hbV.2 | (dsimp only;omega)))) ?_
   refine Gm J ?_
   refine AR (AB (.t6 0 3 4 47 48 49) ?_)
   refine B2 (k+1) _ _ ?_ ?_ (.t6 49 0 3 4 47 48) (.refl _)
   · have hq:V.Cz o.verb to ((AE.BX X.w X.own o.nth o.name o.Bq).getD k.toNat 0)=_:=((AX c6).trans ((AX c7).trans ((AX c8).trans (BG c9))))
     (try rw [AE.EG hx.1 hx.2] at *)
     (try rw [AE.Ds hx.1 hx.2 hn0] at *)
     exact⟨by omega,(by(try rw [AE.EG hx.1 hx.2]);(try rw [AE.Ds hx.1 hx.2 hn0]);exact hq.symm.trans ((congrArg (fun q=>AE.Cz q o.verb to ((AE.BX X.w X.own o.nth o.name o.Bq).getD k.toNat 0)) hI12).trans (AE.JF hI11 (by show k < (((AE.BX X.w X.own o.nth o.name o.Bq)).length:Int);omega)).symm)),by omega,by assumption⟩
   · omega
  have c9p:=kz c9
  refine Gs (Gm J (Gm J (Gm J (Gt (Bb J) (Gt (Al Fm J) ?_)))))
  refine AT (AL (((Af.l0.comp AH.l1).comp (AU.ar (n:=9) An.fl (by first | omega | exact hbV | (dsimp only;omega)))).comp An.l2) J J J DO J .h) ?_
  refine Gt (Bb J) (Gt (Al DX J) ?_)
  refine AT (AL (((Af.l0.comp AH.l1).comp (AU.ar (n:=9) An.fl (by first | omega | exact hbV | (dsimp only;omega)))).comp An.l3) J J J DO J .h) ?_
  refine Gn (.t7 0 3 4 9 47 48 49) ?_
  refine Gw (fun _=> .h) (congrArg (fun q=>Af.enc ⟨q,_,_⟩) (AE.IJ V hx.1 hx.2 2 to)) ?_
  refine BE (N:=15) [0,0,2,6,14,0,0,32,160,416,992,2016,4064,8190,16383] mix (by kernel_rfl) J ?_
  refine Pf 0 J (AF J) (Pf 1 J (AF J) (Pf 2 J (Bb J) (Pf 3 J (Al NC J) ?_)))
  refine Pf 4 J (AI J CO .m0 (((Af.l0.comp AH.l1).comp (AU.ar (n:=9) An.fl (by first | omega | exact hbV | (dsimp only;omega)))).comp An.l0) J J) ?_
  refine Pf 5 J (AF J) (Pf 6 J (AF J) (Pf 7 J (Bb J) (Pf 8 J (Al BB J) (Pf 9 J (Al C6 J) ?_))))
  refine Pf 10 J (AQ Gq J J (by first | omega | exact hbV.1 | exact hbV.2 | (dsimp only;omega)) (by first | omega | exact hbV.1 | exact hbV.2 | (dsimp only;omega))) ?_
  refine Pf 11 J (Al NC J) ?_
  refine Pf 12 J (AI J CO .m0 (((Af.l0.comp AH.l1).comp (AU.ar (n:=9) An.fl (by first | omega | exact hbV | (dsimp only;omega)))).comp An.l0) J J) ?_
  refine Pf 13 J (BF QW JE J (.cons Ing.Event.l0 J J J (.cons Ing.Event.l3 J J J (.cons Ing.Event.l8 J J J (.cons Ing.Event.l9 J J J .nil))))) ?_
  refine Aj 14 J (by kernel_rfl) ?_
  refine Ak J Pw (.c J (.c J .n)) (.c .h (.c .h .n)) (CY _ (V.place ((AE.BX X.w X.own o.nth o.name o.Bq).getD k.toNat 0) 2 to) _ { AE.GF 5 with BM:=((V.place ((AE.BX X.w X.own o.nth o.name o.Bq).getD k.toNat 0) 2 to).w.AP.at ((AE.BX X.w X.own o.nth o.name o.Bq).getD k.toNat 0)).name,text:=((V.place ((AE.BX X.w X.own o.nth o.name o.Bq).getD k.toNat 0) 2 to).w.AP.at to).name } (by assumption) hbV (show(-1:Int) < 6 by decide) (show V.out.length≤100000 by omega)) (fun v30 B hv=>?_)
  obtain⟨y31,rfl,y32,rfl⟩:=hv
  refine Bu J ⟨?_,?_⟩
  · exact(Pk (Pk (Pk (Pk (Pk (Pk (Pk (Pk (Pk (Pk (Pk (Pk (Pk (Pk As))))))))))))))
  refine A2 (by kernel_rfl) ?_
  refine AB (.t6 0 3 4 47 48 49) ?_
  refine AV (AV (AA (AJ ?_)))
  refine Gt (Ay J J (IntWalk.i64_in _ (by first | omega | exact hbV.1 | exact hbV.2 | (dsimp only;omega)))) ?_
  refine Gm J ?_
  refine AR (AB (.t6 0 3 4 47 48 49) ?_)
  refine B2 (k+1) _ _ ?_ ?_ (.t6 49 0 3 4 47 48) (.refl _)
  · have hq:V.Cz o.verb to ((AE.BX X.w X.own o.nth o.name o.Bq).getD k.toNat 0)=_:=((AX c6).trans ((AX c7).trans ((AX c8).trans (AX c9))))
    (try rw [AE.EG hx.1 hx.2] at *)
    (try rw [AE.Ds hx.1 hx.2 hn0] at *)
    exact⟨by omega,(by(try rw [AE.EG hx.1 hx.2]);(try rw [AE.Ds hx.1 hx.2 hn0]);exact hq.symm.trans ((congrArg (fun q=>AE.Cz q o.verb to ((AE.BX X.w X.own o.nth o.name o.Bq).getD k.toNat 0)) hI12).trans (AE.JF hI11 (by show k < (((AE.BX X.w X.own o.nth o.name o.Bq)).length:Int);omega)).symm)),by omega,by assumption⟩
  · omega
 have c5p:=kz c5
 obtain rfl:k=((AE.BX X.w X.own o.nth o.name o.Bq).length:Int):=by omega
 refine Bg (AW (AW (Ah ?_)))
 refine Bs J .n ?_
 intro w1 hS
 have hS:=(hS.perm (Ax.perm (.c .h (.c .h .n)))).A5
 have hq:T.FV o=V:=hgo.trans (hI12.trans AE.ZZ).symm
 refine⟨_,⟨?gq2,J,?hl2,?hB2⟩,hS⟩
 case hB2=>rw [hq];(try rfl)
 case hl2=>rw [hq];exact hI14
theorem Kr (s:Ad)(w:World)(gl0:GV 0 AH.DU w):Ev Tryz.prog 138 #[BW s] w fun v w'=>v = .tuple #[.int .i64 (Words.dir s).1, .bool (Words.dir s).2]∧CH w w':=by
 refine Ap [] [] Tryz.func138 J J J (St.start w []) ?_
 refine Gs (Ga J (Ga J (Gn (.t1 0) (CL (Gm J (AR (AA ?_)))))))
 refine Ag ?_
 refine Bw (.t2 5 0) ?_
 refine Ck (fun(k:Int)=>0≤k∧k≤6∧Words.QM s 6=Words.QM s (6 - k).toNat) (fun(k:Int)=>(6 - k).toNat) (fun(k:Int)=> [(5, .int .i64 k)]) (fun(k:Int)=> []) (0) ?_ J J (fun k hI1=>?_)
 · exact⟨by omega,by omega,rfl⟩
 obtain⟨hI11,hI12,hI13⟩:=hI1
 refine Gs (Gt (BA J J) (AR (AA (Aq ?_))))
 refine Gc (fun c1=>?_) (fun c1=>?_)
 ·
  have c1p:=kz c1
  rw [Words.X4 hI11 (by omega)] at hI13
  refine Aa ?_
  refine AB (.t2 0 5) ?_
  refine AA (Aq (Ag (Gs (Gm J (Ga J (Gn (.t3 0 4 5) (Gs ?_)))))))
  refine Gm J ?_
  refine Gt (AQ bI J J (by omega) (by omega)) ?_
  refine Gt (Rk gl0 J CO (AH.PG (by omega) (by omega))) ?_
  refine Gm J (Gt (B4 J J) (Gn (.t4 0 4 5 12) ?_))
  refine Gc (fun c2=>?_) (fun c2=>?_)
  ·
   refine Gs (Gm J (Ga J (Ga J (Gn (.t2 2 3) (Ac (AS (AD ?_)))))))
   refine AD (AS (AD ?_))
   refine AY J (.tmp J (.tmp J .n)) ?_
   intro w1 hS;refine⟨?_,hS.Ao⟩;rw [Words.dir,hI13,BG c2];rfl
  have c2p:=kz c2
  refine Aa ?_
  refine AB (.t2 0 5) ?_
  refine AV (AA (AJ ?_))
  refine Gt (Ay J J (IntWalk.i64_in _ (by omega))) ?_
  refine Gm J ?_
  refine AR (AB (.t2 0 5) ?_)
  refine CC (k+1) ?_ ?_ (.t2 5 0) (.refl _)
  · exact⟨by omega,by omega,by rw [hI13,AX c2]⟩
  · omega
 have c1p:=kz c1
 obtain rfl:k=6:=by omega
 refine Bg (AW (AW (Ah ?_)))
 refine AB (.nil _) ?_
 refine AA (Gs (Ga J (Ga J (AR (AA (Ac ?_))))))
 refine AY J (.tmp J (.tmp J .n)) ?_
 intro w1 hS;refine⟨?_,hS.Ao⟩;rw [Words.dir,hI13];rfl
theorem SW (b:Nat)(T:AE)(g:Hd)(d:Int)(p:Bool)(k:Int)(hg:g.len=T.out.length)(hF:T.Fit)(hd:0≤d∧d < 6)(hn:T.out.length≤90000):KN Tryz.prog 139 #[.pointer (some ⟨b,0,none⟩), .int .i64 d, .bool p, .int .i64 k] [Ab.box b 163 (Af.enc ⟨T.w,T.b,g⟩),Ab.own g 56 16 (T.out.flatMap Ing.Event.enc)] (fun v B=>∃ g':Hd,v = .tuple #[]∧g'.len=(T.Gv d p k).out.length∧B = [Ab.box b 163 (Af.enc ⟨(T.Gv d p k).w,(T.Gv d p k).b,g'⟩),Ab.own g' 56 16 ((T.Gv d p k).out.flatMap Ing.Event.enc)]):=by
 intro w hS0
 have hb:=hF.b
 have hr:=hF.room
 have hx:=hF.exit hd.1 hd.2
 have hop:=AH.Mh d
 refine Ap _ _ Tryz.func139 J J J (hS0) ?_
 refine Aq ?_
 refine BE (N:=12) [0,0,2,6,14,1,33,97,255,511,1023,2047] mix (by kernel_rfl) J ?_
 refine Pf 0 J (AF J) (Pf 1 J (AF J) (Pf 2 J (Bb J) (Pf 3 J (Al Cb J) (Pf 4 J (AI J A8 .m0 Af.l1 J J) (Pf 5 J (Bb J) (Pf 6 J (Al BB J) (Pf 7 J (Al Bx J) ?_)))))))
 refine Pf 8 J (AQ DI J J (by first | omega | exact hb.1 | exact hb.2 | exact hr.1 | exact hr.2 | (dsimp only;omega)) (by first | omega | exact hb.1 | exact hb.2 | exact hr.1 | exact hr.2 | (dsimp only;omega))) ?_
 refine Pf 9 J (Al DE J) ?_
 refine Pf 10 J (AI J A8 .m0 (((Af.l0.comp AH.l2).comp (AU.ar (n:=6) Am.fl (by first | omega | exact hb | exact hr | (dsimp only;omega)))).comp Am.l3) J J) ?_
 refine Pf 11 J (A0 J) ?_
 refine A2 (by kernel_rfl) ?_
 refine AB (.t5 0 1 2 3 8) ?_
 refine AA (Gs (Gm J (Gm J (Gm J (Gt (Bb J) (Gt (Al BB J) (Gt (Al HU J) ?_)))))))
 refine Gt (AQ Om J J (by first | omega | exact hb.1 | exact hb.2 | exact hr.1 | exact hr.2 | (dsimp only;omega)) (by first | omega | exact hb.1 | exact hb.2 | exact hr.1 | exact hr.2 | (dsimp only;omega))) ?_
 refine Gt (Al NV J) ?_
 refine Gt (AQ Tx J J (by first | omega | exact hb.1 | exact hb.2 | exact hr.1 | exact hr.2 | (dsimp only;omega)) (by first | omega | exact hb.1 | exact hb.2 | exact hr.1 | exact hr.2 | (dsimp only;omega))) ?_
 refine Gt (AI J A8 .m0 ((((Af.l0.comp AH.l0).comp (AU.ar (n:=6) Room.fl (by first | omega | exact hb | exact hr | (dsimp only;omega)))).comp Room.l2).comp (AU.ar (n:=6) B9 (by first | omega | exact hb | exact hr | (dsimp only;omega)))) J J) ?_
 refine Gt (FT J J (IntWalk.i64_in _ (by first | omega | exact hb.1 | exact hb.2 | exact hr.1 | exact hr.2 | (dsimp only;omega)))) ?_
 refine Ga J (Gn (.t6 0 1 2 3 8 9) (Ag (Gs (Gm J (Gt (BA J J) (Ga J (Gn (.t7 0 1 2 3 8 9 74) ?_)))))))
 refine Gc (fun c1=>?_) (fun c1=>?_)
 ·
  have c1p:=kz c1
  try dsimp only at c1p
  refine AJ (Gm J ?_)
  refine Ak J EV (.c J (.c J .n)) (.c .h (.c .h .n)) (Bi _ _ _ _ hg hb (by omega)) (fun v1 B hv=>?_)
  obtain⟨y2,rfl,y3,rfl⟩:=hv
  refine AR (AB (.nil _) ?_)
  refine AV ?_
  refine Bs J .n ?_
  intro w1 hS
  have hS:=(hS.perm (Ax.perm (.c .h (.c .h .n)))).A5
  have hq:T.Gv d p k=_:=(BG c1)
  refine⟨_,⟨?gq1,J,?hl1,?hB1⟩,hS⟩
  case hB1=>rw [hq];(try rfl)
  case hl1=>rw [hq];assumption
 have c1p:=kz c1
 try dsimp only at c1p
 refine Gs (Gm J (Gm J (Gm J (Gt (Bb J) (Gt (Al BB J) (Gt (Al HU J) ?_))))))
 refine Gt (AQ Om J J (by first | omega | exact hb.1 | exact hb.2 | exact hr.1 | exact hr.2 | (dsimp only;omega)) (by first | omega | exact hb.1 | exact hb.2 | exact hr.1 | exact hr.2 | (dsimp only;omega))) ?_
 refine Gt (Al M7 J) ?_
 refine Gt (AQ XH J J (by first | omega | exact hb.1 | exact hb.2 | exact hr.1 | exact hr.2 | (dsimp only;omega)) (by first | omega | exact hb.1 | exact hb.2 | exact hr.1 | exact hr.2 | (dsimp only;omega))) ?_
 refine Gt (AI J D3 .m0 ((((Af.l0.comp AH.l0).comp (AU.ar (n:=6) Room.fl (by first | omega | exact hb | exact hr | (dsimp only;omega)))).comp Room.l3).comp (AU.ar (n:=6) Hs (by first | omega | exact hb | exact hr | (dsimp only;omega)))) J J) ?_
 refine Gm J (Gt (KV Tryz.underlying4 J J) (Ga J (Gn (.t7 0 1 2 3 8 9 79) ?_)))
 refine Gc (fun c2=>?_) (fun c2=>?_)
 ·
  have c2p:=kz c2
  try dsimp only at c2p
  refine AJ (Gm J ?_)
  refine Ak J EV (.c J (.c J .n)) (.c .h (.c .h .n)) (Bi _ _ _ _ hg hb (by omega)) (fun v4 B hv=>?_)
  obtain⟨y5,rfl,y6,rfl⟩:=hv
  refine AR (AB (.nil _) ?_)
  refine AV ?_
  refine Bs J .n ?_
  intro w1 hS
  have hS:=(hS.perm (Ax.perm (.c .h (.c .h .n)))).A5
  have hq:T.Gv d p k=_:=((AX c1).trans (BG c2))
  refine⟨_,⟨?gq2,J,?hl2,?hB2⟩,hS⟩
  case hB2=>rw [hq];(try rfl)
  case hl2=>rw [hq];assumption
 have c2p:=kz c2
 try dsimp only at c2p
 refine Gs (Gm J (Gm J (Gm J (Gm J (Gt (BZ J) (Gt (Bb J) (Gt (Al BB J) ?_)))))))
 refine Gt (Al HU J) ?_
 refine Gt (AQ Om J J (by first | omega | exact hb.1 | exact hb.2 | exact hr.1 | exact hr.2 | (dsimp only;omega)) (by first | omega | exact hb.1 | exact hb.2 | exact hr.1 | exact hr.2 | (dsimp only;omega))) ?_
 refine Gt (Al M7 J) ?_
 refine Gt (AQ XH J J (by first | omega | exact hb.1 | exact hb.2 | exact hr.1 | exact hr.2 | (dsimp only;omega)) (by first | omega | exact hb.1 | exact hb.2 | exact hr.1 | exact hr.2 | (dsimp only;omega))) ?_
 refine AT (AL ((((Af.l0.comp AH.l0).comp (AU.ar (n:=6) Room.fl (by first | omega | exact hb | exact hr | (dsimp only;omega)))).comp Room.l3).comp (AU.ar (n:=6) Hs (by first | omega | exact hb | exact hr | (dsimp only;omega)))) J J J LG J .h) ?_
 refine Gn (.t6 0 1 2 3 8 9) (CL (Gm J ?_))
 refine BC J dK (.c J .n) (fun w hS=>IL _ w) ?_
 refine Ga J (Gn (.t6 0 2 3 8 9 10) (Gs (Gm J (Gm J (Gm J (Gt (Bb J) (Gt (Al BB J) ?_)))))))
 refine Gt (Al HU J) ?_
 refine Gt (AQ Om J J (by first | omega | exact hb.1 | exact hb.2 | exact hr.1 | exact hr.2 | (dsimp only;omega)) (by first | omega | exact hb.1 | exact hb.2 | exact hr.1 | exact hr.2 | (dsimp only;omega))) ?_
 refine Gt (Al NV J) ?_
 refine Gt (AQ Tx J J (by first | omega | exact hb.1 | exact hb.2 | exact hr.1 | exact hr.2 | (dsimp only;omega)) (by first | omega | exact hb.1 | exact hb.2 | exact hr.1 | exact hr.2 | (dsimp only;omega))) ?_
 refine Gt (AI J A8 .m0 ((((Af.l0.comp AH.l0).comp (AU.ar (n:=6) Room.fl (by first | omega | exact hb | exact hr | (dsimp only;omega)))).comp Room.l2).comp (AU.ar (n:=6) B9 (by first | omega | exact hb | exact hr | (dsimp only;omega)))) J J) ?_
 refine Gm J ?_
 refine Gt (Ay J J (IntWalk.i64_in _ (by first | omega | exact hb.1 | exact hb.2 | exact hr.1 | exact hr.2 | (dsimp only;omega)))) ?_
 refine Gt (Ai J J) (Gn (.t6 0 2 3 9 10 58) ?_)
 refine Gc (fun c3=>?_) (fun c3=>?_)
 ·
  have c3p:=kz c3
  try dsimp only at c3p
  refine AJ (Gm J (Gm J (Gm J (Gm J (Gt (BZ J) (Gt (Bb J) (Gt (Al BB J) ?_)))))))
  refine Gt (Al HU J) ?_
  refine Gt (AQ Om J J (by first | omega | exact hb.1 | exact hb.2 | exact hr.1 | exact hr.2 | (dsimp only;omega)) (by first | omega | exact hb.1 | exact hb.2 | exact hr.1 | exact hr.2 | (dsimp only;omega))) ?_
  refine Gt (Al M7 J) ?_
  refine Gt (AQ XH J J (by first | omega | exact hb.1 | exact hb.2 | exact hr.1 | exact hr.2 | (dsimp only;omega)) (by first | omega | exact hb.1 | exact hb.2 | exact hr.1 | exact hr.2 | (dsimp only;omega))) ?_
  refine AT (AL ((((Af.l0.comp AH.l0).comp (AU.ar (n:=6) Room.fl (by first | omega | exact hb | exact hr | (dsimp only;omega)))).comp Room.l3).comp (AU.ar (n:=6) Hs (by first | omega | exact hb | exact hr | (dsimp only;omega)))) J J J LG J .h) ?_
  refine Gn (.t2 0 3) (AJ (Gm J (Gm J (Gt (BF QW JE J (.cons Ing.Event.l0 J J J (.cons Ing.Event.l3 J J J (.cons Ing.Event.l8 J J J .nil)))) ?_))))
  refine Ak J Pw (.c J (.c J .n)) (.c .h (.c .h .n)) (CY _ (AE.DG (T.DG T.me.room d (!p)) ((T.w.BT.at (T.w.AO.at T.b).room).Ca.at d - 1) (AH.opposite d) (!p)) _ { AE.GF k with BM:=AE.P7 } hg hb (show(-1:Int) < 6 by decide) (show T.out.length≤100000 by omega)) (fun v7 B hv=>?_)
  obtain⟨y8,rfl,y9,rfl⟩:=hv
  refine AR (AB (.nil _) ?_)
  refine AV ?_
  refine Bs J .n ?_
  intro w1 hS
  have hS:=(hS.perm (Ax.perm (.c .h (.c .h .n)))).A5
  have hq:T.Gv d p k=_:=(show T.Gv d p k=_ from(AX c1).trans (AX c2)).trans (congrArg (fun q=>AE.BV q { AE.GF k with BM:=AE.P7 }) (BG c3))
  refine⟨_,⟨?gq3,J,?hl3,?hB3⟩,hS⟩
  case hB3=>rw [hq];(try rfl)
  case hl3=>rw [hq];assumption
 have c3p:=kz c3
 try dsimp only at c3p
 refine Aa ?_
 refine AB (.t2 0 3) ?_
 refine AA (AJ (Gm J (Gm J (Gt (BF QW JE J (.cons Ing.Event.l0 J J J (.cons Ing.Event.l3 J J J (.cons Ing.Event.l8 J J J .nil)))) ?_))))
 refine Ak J Pw (.c J (.c J .n)) (.c .h (.c .h .n)) (CY _ (T.DG T.me.room d (!p)) _ { AE.GF k with BM:=AE.P7 } hg hb (show(-1:Int) < 6 by decide) (show T.out.length≤100000 by omega)) (fun v10 B hv=>?_)
 obtain⟨y11,rfl,y12,rfl⟩:=hv
 refine AR (AB (.nil _) ?_)
 refine AV ?_
 refine Bs J .n ?_
 intro w1 hS
 have hS:=(hS.perm (Ax.perm (.c .h (.c .h .n)))).A5
 have hq:T.Gv d p k=_:=(show T.Gv d p k=_ from(AX c1).trans (AX c2)).trans (congrArg (fun q=>AE.BV q { AE.GF k with BM:=AE.P7 }) (AX c3))
 refine⟨_,⟨?gq4,J,?hl4,?hB4⟩,hS⟩
 case hB4=>rw [hq];(try rfl)
 case hl4=>rw [hq];assumption
theorem F9 (b:Nat)(T:AE)(g:Hd)(a:Bool)(i:Int)(p:Bool)(k:Int)(hg:g.len=T.out.length)(hb:0≤T.b∧T.b < 6)(hi:0≤i∧i < 9)(hn:T.out.length≤90000):KN Tryz.prog 140 #[.pointer (some ⟨b,0,none⟩), .bool a, .int .i64 i, .bool p, .int .i64 k] [Ab.box b 163 (Af.enc ⟨T.w,T.b,g⟩),Ab.own g 56 16 (T.out.flatMap Ing.Event.enc)] (fun v B=>∃ g':Hd,v = .tuple #[]∧g'.len=(T.before a i p k).out.length∧B = [Ab.box b 163 (Af.enc ⟨(T.before a i p k).w,(T.before a i p k).b,g'⟩),Ab.own g' 56 16 ((T.before a i p k).out.flatMap Ing.Event.enc)]):=by
 intro w hS0
 refine Ap _ _ Tryz.func140 J J J (hS0) ?_
 refine CL (Gm J (Gn (.t5 0 2 3 4 10) ?_))
 refine Gc (fun c1=>?_) (fun c1=>?_)
 ·
  have c1p:=kz c1
  refine Gs (Gm J (Gm J (Gm J (Gt (Bb J) (Gt (Al BB J) (Gt (Al C6 J) ?_))))))
  refine Gt (AQ Gq J J (by first | omega | exact hb.1 | exact hb.2 | (dsimp only;omega)) (by first | omega | exact hb.1 | exact hb.2 | (dsimp only;omega))) ?_
  refine Gt (Al Gi J) ?_
  refine AT (AL (((Af.l0.comp AH.l1).comp (AU.ar (n:=9) An.fl (by first | omega | exact hb | (dsimp only;omega)))).comp An.l4) J J J LG J .h) ?_
  refine Gn (.t3 0 2 4) (Gs (Gm J (Gm J (Gm J ?_))))
  refine Ak J Pm (.c J (.c J (.c J .n))) (.c .h (.c .h .n)) (EE _ (T.DH i { T.w.AP.at i with on:=p }) _ k i hg hb hi (show T.out.length≤100000 by omega)) (fun v1 B hv=>?_)
  obtain⟨y2,rfl,y3,rfl⟩:=hv
  refine Gn (.nil _) (Ac (AD ?_))
  refine AY J .n ?_
  intro w1 hS
  have hS:=(hS.perm (Ax.perm (.c .h (.c .h .n)))).A5
  have hq:T.before a i p k=_:=(BG c1)
  refine⟨_,⟨?gq1,J,?hl1,?hB1⟩,hS⟩
  case hB1=>rw [hq];(try rfl)
  case hl1=>rw [hq];assumption
 have c1p:=kz c1
 refine Aa ?_
 refine AB (.t4 0 2 3 4) ?_
 refine AA (Gs (Gm J (Gm J (Gm J ?_))))
 refine Ak J Pm (.c J (.c J (.c J .n))) (.c .h (.c .h .n)) (EE _ T _ k i hg hb hi (show T.out.length≤100000 by omega)) (fun v4 B hv=>?_)
 obtain⟨y5,rfl,y6,rfl⟩:=hv
 refine Gn (.t3 0 2 3) (AJ (Gm J (Gm J (Gm J (Gt (Bb J) (Gt (Al BB J) (Gt (Al C6 J) ?_)))))))
 refine Gt (AQ Gq J J (by first | omega | exact hb.1 | exact hb.2 | (dsimp only;omega)) (by first | omega | exact hb.1 | exact hb.2 | (dsimp only;omega))) ?_
 refine Gt (Al Gi J) ?_
 refine AT (AL (((Af.l0.comp AH.l1).comp (AU.ar (n:=9) An.fl (by first | omega | exact hb | (dsimp only;omega)))).comp An.l4) J J J LG J .h) ?_
 refine AR ?_
 refine Bs J .n ?_
 intro w1 hS
 have hS:=(hS.perm (Ax.perm (.c .h (.c .h .n)))).A5
 have hq:T.before a i p k=_:=(AX c1)
 refine⟨_,⟨?gq2,J,?hl2,?hB2⟩,hS⟩
 case hB2=>rw [hq];(try rfl)
 case hl2=>rw [hq];assumption
end Go.Proofs.YtoidpggbbfncpaaGreatDoor
