/- What the functions that the law TopTranscript reaches compute: walks, part 6. No condition. -/
import Derived.Test.YtoidpggbbfncpaaGreatDoorCards
import Derived.Test.YtoidpggbbfncpaaGreatDoorTie
import Derived.Deep.DeepHandedRow
import Derived.Test.YtoidpggbbfncpaaGreatDoorRows
import Derived.Test.YtoidpggbbfncpaaGreatDoorTopTranscriptEc3
import Derived.Test.YtoidpggbbfncpaaGreatDoorTopTranscriptRa1
import Derived.Test.YtoidpggbbfncpaaGreatDoorTopTranscriptRb1
import Derived.Test.YtoidpggbbfncpaaGreatDoorTopTranscriptRc1
import Derived.Test.YtoidpggbbfncpaaGreatDoorTopTranscriptWalks
import Derived.Test.YtoidpggbbfncpaaGreatDoorTopTranscriptWalks2
import Derived.Test.YtoidpggbbfncpaaGreatDoorTopTranscriptWalks3
import Derived.Test.YtoidpggbbfncpaaGreatDoorTopTranscriptWalks4
import Derived.Test.YtoidpggbbfncpaaGreatDoorTopTranscriptWalks5
set_option linter.unusedSimpArgs false
set_option linter.unusedVariables false
set_option maxRecDepth 100000
set_option maxHeartbeats 1000000
namespace Go.Proofs.YtoidpggbbfncpaaGreatDoor
open Go Go.Ing Go.RowKit Go.ChangeShapes Go.WideShapes Go.ChangeAt
theorem EB (b:Nat)(V:AN)(ls:Vector BD 4)(ev:List Ing.Event)(n m:Nat)(hF:AG.Fit (A7 V ls ev) n m)(hn:n≤600000)(hm:m≤600000):FO Tryz.prog 65 #[.pointer (some ⟨b,0,none⟩)] [Ab.box b 101 (AN.enc V),Ab.DP (CQ 9 (AN.Ar V) ls),Ab.own (AN.last V) 56 16 ((ev).flatMap Ing.Event.enc)] (fun w=>(GV 2 GJ w∧2 ∉ Ch [Ab.box b 101 (AN.enc V),Ab.DP (CQ 9 (AN.Ar V) ls),Ab.own (AN.last V) 56 16 ((ev).flatMap Ing.Event.enc)])∧(GV 0 AH.DU w∧0 ∉ Ch [Ab.box b 101 (AN.enc V),Ab.DP (CQ 9 (AN.Ar V) ls),Ab.own (AN.last V) 56 16 ((ev).flatMap Ing.Event.enc)])∧(HP 7 w∧7 ∉ Ch [Ab.box b 101 (AN.enc V),Ab.DP (CQ 9 (AN.Ar V) ls),Ab.own (AN.last V) 56 16 ((ev).flatMap Ing.Event.enc)])∧(HP 8 w∧8 ∉ Ch [Ab.box b 101 (AN.enc V),Ab.DP (CQ 9 (AN.Ar V) ls),Ab.own (AN.last V) 56 16 ((ev).flatMap Ing.Event.enc)])) (fun v B=>∃ V' ls' ev',v = .tuple #[]∧A7 V' ls' ev'=AG.BH (A7 V ls ev)∧B = [Ab.box b 101 (AN.enc V'),Ab.DP (CQ 9 (AN.Ar V') ls'),Ab.own (AN.last V') 56 16 ((ev').flatMap Ing.Event.enc)]):=by
 intro w hS0 hH
 obtain⟨⟨gl0,gm0⟩,⟨gl1,gm1⟩,⟨gl2,gm2⟩,⟨gl3,gm3⟩⟩:=hH
 refine Ap _ _ Tryz.func65 J J J (hS0) ?_
 refine Gs (Gm J (AR (AA (Ag ?_))))
 refine Bw (.t2 5 0) ?_
 refine Be (.t (.t .h)) ?_
 refine Be (.t (.t .h)) ?_
 refine Be (.t (.t .h)) ?_
 refine IM (fun(k:Int) (V1:AN) (ls1:Vector BD 4) (ev1:List Ing.Event)=>0≤k∧k≤5∧(A7 V ls ev).BH=(A7 V1 ls1 ev1).GW (5 - k).toNat∧AG.Fit (A7 V1 ls1 ev1) (n+44 * k.toNat) (m+44 * k.toNat)) (fun(k:Int) (V1:AN) (ls1:Vector BD 4) (ev1:List Ing.Event)=>(5 - k).toNat) (fun(k:Int) (V1:AN) (ls1:Vector BD 4) (ev1:List Ing.Event)=> [(5, .int .i64 k)]) (fun(k:Int) (V1:AN) (ls1:Vector BD 4) (ev1:List Ing.Event)=> [Ab.box b 101 (AN.enc V1),Ab.DP (CQ 9 (AN.Ar V1) ls1),Ab.own (AN.last V1) 56 16 (ev1.flatMap Ing.Event.enc)]) (0) (V) (ls) (ev) ?_ J J (fun k V1 ls1 ev1 hI1=>?_)
 · exact⟨by omega,by omega,rfl,hF⟩
 obtain⟨hI11,hI12,hI13,hI14⟩:=hI1
 refine Gs (Gt (BA J J) (AR (AA (Aq ?_))))
 refine Gc (fun c1=>?_) (fun c1=>?_)
 ·
  have c1p:=kz c1
  refine Aa ?_
  refine AB (.t2 0 5) ?_
  refine AA (Aq (Ag (Gs (Ga J (AR (AA (CL ?_)))))))
  refine Gm J (AR (AA (Ag ?_)))
  refine Bw (.t4 2 7 0 5) ?_
  refine Be (.t (.t .h)) ?_
  refine Be (.t (.t .h)) ?_
  refine Be (.t (.t .h)) ?_
  refine UD (fun(i:Int) (V2:AN) (ls2:Vector BD 4) (ev2:List Ing.Event) (c:Bool)=>0≤i∧i≤4∧((A7 V2 ls2 ev2),c)=(A7 V1 ls1 ev1).CG i.toNat) (fun(i:Int) (V2:AN) (ls2:Vector BD 4) (ev2:List Ing.Event) (c:Bool)=>(4 - i).toNat) (fun(i:Int) (V2:AN) (ls2:Vector BD 4) (ev2:List Ing.Event) (c:Bool)=> [(2, .bool c),(7, .int .i64 i)]) (fun(i:Int) (V2:AN) (ls2:Vector BD 4) (ev2:List Ing.Event) (c:Bool)=> [Ab.box b 101 (AN.enc V2),Ab.DP (CQ 9 (AN.Ar V2) ls2),Ab.own (AN.last V2) 56 16 (ev2.flatMap Ing.Event.enc)]) (0) (V1) (ls1) (ev1) (false) ?_ J J (fun i V2 ls2 ev2 c hI2=>?_)
  · exact⟨by omega,by omega,rfl⟩
  obtain⟨hI21,hI22,hI23⟩:=hI2
  refine Gs (Gt (BA J J) (AR (AA (Aq ?_))))
  refine Gc (fun c2=>?_) (fun c2=>?_)
  ·
   have c2p:=kz c2
   have hi:0≤i∧i < 4:=⟨by omega,by omega⟩
   have hF2:=Q2 hI14 hi.1 (by omega) hI23
   refine Aa ?_
   refine AB (.t4 0 2 5 7) ?_
   refine AA (Aq (Ag (Gs (Gm J (Ga J (Gn (.t5 0 2 3 5 7) (Gs ?_)))))))
   refine Gm J (Gm J (Gt (Bb J) (Gt (Al Gz J) ?_)))
   refine Gt (AQ Qm J J (by first | omega | exact hi.1 | exact hi.2) (by first | omega | exact hi.1 | exact hi.2)) ?_
   refine Ga J (Gn (.t5 0 2 4 5 7) (CL (Gm J (Gt (Bb J) (Gt (Al Jx J) ?_)))))
   refine Gt (AI J A8 .m0 ((AN.l1.comp (AU.ar (n:=4) A4.fl (by first | omega | exact hi))).comp A4.l0) J J) ?_
   refine Gt (Ai J J) (Gn (.t6 0 2 4 5 7 19) ?_)
   refine Gc (fun c3=>?_) (fun c3=>?_)
   ·
    have c3p:=kz c3
    refine Bg (AW (Ah ?_))
    refine AB (.t4 0 2 5 7) ?_
    refine AA (AJ ?_)
    refine Gt (Ay J J (IntWalk.i64_in _ (by first | omega | exact hi.1 | exact hi.2))) ?_
    refine Gm J ?_
    refine AR (AB (.t4 0 2 5 7) ?_)
    refine LD (i+1) _ _ _ _ ?_ ?_ (.t4 2 7 0 5) (.refl _)
    · exact⟨by omega,by omega,((L8 hi.1 hi.2 hI23).trans (BG c3)).symm⟩
    · omega
   have c3p:=kz c3
   refine Aa ?_
   refine AB (.t5 0 2 4 5 7) ?_
   refine AA ?_
   refine Be (.t (.t .h)) ?_
   refine Be (.t (.t .h)) ?_
   refine Be (.t (.t .h)) ?_
   refine SK (Lm:= [_,_,_]) (fun(V3:AN) (ls3:Vector BD 4)=>(A7 V3 ls3 ev2)=(A7 V2 ls2 ev2).set i ((A7 V2 ls2 ev2).at_ i).BH) (fun(V3:AN) (ls3:Vector BD 4)=> []) (fun(V3:AN) (ls3:Vector BD 4)=> [Ab.box b 101 (AN.enc V3),Ab.DP (CQ 9 (AN.Ar V3) ls3),Ab.own (AN.last V3) 56 16 (ev2.flatMap Ing.Event.enc)]) (.t5 0 2 4 5 7) J ?_ (fun V3 ls3 hC=>?_)
   ·
    refine Fj (k:=i) hi.1 hi.2 (fun sv sl hsv hlv hln=>?_)
    refine BE (N:=17) [0,0,2,6,14,0,32,96,224,480,1022,2046,4094,4094,8191,24575,57343] mix (by kernel_rfl) J ?_
    refine Pf 0 J (AF J) (Pf 1 J (AF J) (Pf 2 J (Bb J) (Pf 3 J (Al D2 J) (Pf 4 J (AZ J C4 .m3 ((AU.A3 V2 hi.1 hi.2).comp A4.l4) J) (Pf 5 J (AF J) (Pf 6 J (Bb J) (Pf 7 J (Al Lk J) ?_)))))))
    refine Pf 8 J (Al Sn J) (Pf 9 J (AI J A8 .m3 (((AU.A3 V2 hi.1 hi.2).comp A4.l2).comp AK.l5) J J) ?_)
    refine Aj 10 J (by kernel_rfl) ?_
    refine BL J ie (.c J (.c J .n)) .n (OK _ _ _ (by rw [← hlv];exact bB hF2 hi.1 hi.2)) (fun w hS=>⟨(Kn.own .m1) w hS,(Uh.own .m1) w hS⟩) (fun v1 B hv=>?_)
    rcases hv with ⟨y2,rfl,rfl⟩ | ⟨y3,y4,y5,y6,y7,rfl,y8,y9,rfl⟩
    ·
     refine Bu J ⟨?_,?_⟩
     · exact(Pk (Pk (Pk (Pk (Pk (Pk (Pk (Pk (Pk (Po J (AF J) J J As))))))))))
     refine Pf 11 J (AF J) (Pf 12 J (AM J J) (Pf 13 J (AM J J) (Pf 14 J (Bb J) (Pf 15 J (Al D2 J) ?_))))
     refine Aj 16 J (by kernel_rfl) ?_
     refine AT (AL ((AU.A3 V2 hi.1 hi.2).comp A4.l4) J J J Fb J (.t (.t (.t .h)))) ?_
     refine BO J ⟨?_,?_⟩
     · exact(Pk (Pk (Po J (AM J J) J J (Pk (Pk (Pk (Pk (Pk (Pk (Pk (Pk (Pk (Pk (Pk (Pk As)))))))))))))))
     refine A2 (by kernel_rfl) ?_
     refine AB (.t5 0 2 4 5 7) ?_
     refine CK (.c .h (.c .h (.c .h (.c .h (.c .h .n))))) ?_
     refine S2 hi.1 hi.2 (by rfl) (by rfl) (by rfl) ?_
     refine Er _ _ ?_ (.t5 0 2 4 5 7) (.refl _)
     · exact E3 hi.1 hi.2 hsv hlv (f:=Ae.BH) (KH hln.2.1 y2)
    refine Bu J ⟨?_,?_⟩
    · exact(Pk (Pk (Pk (Pk (Pk (Pk (Pk (Pk (Pk (Po J (AF J) J J As))))))))))
    refine Pf 11 J (AF J) (Pf 12 J (AM J J) (Pf 13 J (AM J J) (Pf 14 J (Bb J) (Pf 15 J (Al D2 J) ?_))))
    refine Aj 16 J (by kernel_rfl) ?_
    refine AT (AL ((AU.A3 V2 hi.1 hi.2).comp A4.l4) J J J Fb J (.t (.t (.t (.t .h))))) ?_
    refine BO J ⟨?_,?_⟩
    · exact(Pk (Pk (Po J (AM J J) J J (Pk (Pk (Pk (Pk (Pk (Pk (Pk (Pk (Pk (Pk (Pk (Pk As)))))))))))))))
    refine A2 (by kernel_rfl) ?_
    refine AB (.t5 0 2 4 5 7) ?_
    refine CK (.c .h (.c (.t .h) .n)) ?_
    refine gZ y9 ?_
    refine CK (.c (.t .h) (.c .h (.c .h (.c .h (.c .h .n))))) ?_
    refine S2 hi.1 hi.2 (by rfl) (by rfl) (by rfl) ?_
    refine Er _ _ ?_ (.t5 0 2 4 5 7) (.refl _)
    · exact E3 hi.1 hi.2 hsv hlv (f:=Ae.BH) (bq hln.2.1 y3 _)
   refine Gs (Gm J (Gt (Bb J) (Gt (Al D2 J) (Gt (Al L9 J) ?_))))
   refine Gt (AI J D3 .m0 (((AN.l1.comp (AU.ar (n:=4) A4.fl (by first | omega | exact hi))).comp A4.l4).comp Av.l4) J J) ?_
   refine Gn (.t6 0 2 4 5 7 40) ?_
   refine Gc (fun c4=>?_) (fun c4=>?_)
   ·
    have c4p:=kz c4
    refine Gs (Gm J (Gm J ?_))
    refine BL J eh (.c J (.c J .n)) (.c .h (.c .h (.c .h .n))) (I0 _ V3 ls3 ev2 i _ _ hi (by rw [hC];exact hF2.aK hi.1 hi.2) (by omega) (by omega)) (fun w hS=>⟨gl0.pull gm0 hS (.c .h (.c .h (.c .h .n))),gl1.pull gm1 hS (.c .h (.c .h (.c .h .n))),gl2.pull gm2 hS (.c .h (.c .h (.c .h .n))),gl3.pull gm3 hS (.c .h (.c .h (.c .h .n)))⟩) (fun v13 B hv=>?_)
    obtain⟨y14,y15,y16,rfl,y17,rfl⟩:=hv
    refine Gn (.t3 0 5 7) (AJ (Ga J (AR (AV (AA (AJ ?_))))))
    refine Gt (Ay J J (IntWalk.i64_in _ (by first | omega | exact hi.1 | exact hi.2))) ?_
    refine Gm J ?_
    refine AR (AB (.t4 0 2 5 7) ?_)
    refine LD (i+1) _ _ _ _ ?_ ?_ (.t4 2 7 0 5) (.refl _)
    · exact⟨by omega,by omega,(((L8 hi.1 hi.2 hI23).trans ((AX c3).trans (BG (show _=true from(WW hi.1 hi.2 hC).symm.trans c4)))).trans (by rw [← hC,← y17])).symm⟩
    · omega
   have c4p:=kz c4
   refine Aa ?_
   refine AB (.t4 0 2 5 7) ?_
   refine AV (AA (AJ ?_))
   refine Gt (Ay J J (IntWalk.i64_in _ (by first | omega | exact hi.1 | exact hi.2))) ?_
   refine Gm J ?_
   refine AR (AB (.t4 0 2 5 7) ?_)
   refine LD (i+1) _ _ _ _ ?_ ?_ (.t4 2 7 0 5) (.refl _)
   · exact⟨by omega,by omega,(((L8 hi.1 hi.2 hI23).trans ((AX c3).trans (AX (show _=false from(WW hi.1 hi.2 hC).symm.trans c4)))).trans (by rw [← hC])).symm⟩
   · omega
  have c2p:=kz c2
  obtain rfl:i=4:=by omega
  have hE:(A7 V1 ls1 ev1).CG 4=((A7 V2 ls2 ev2),c):=hI23.symm
  refine Bg (AW (AW (Ah ?_)))
  refine AB (.t3 0 2 5) ?_
  refine AA (Gs (Gm J (Gt (BZ J) (Gn (.t3 0 5 46) ?_))))
  refine Gc (fun c5=>?_) (fun c5=>?_)
  ·
   have c5p:=kz c5
   refine Ac (AS (AD (AD (AS ?_))))
   refine AY J .n ?_
   intro w1 hS
   have hS:=(hS.perm (Ax.perm (.c .h (.c .h (.c .h .n))))).A5
   refine⟨_,⟨V2,ls2,ev2,J,?ga1,J⟩,hS⟩
   case ga1=>exact(hI13.trans ((QY hI11 (by omega)).trans ((BG (show(!((A7 V1 ls1 ev1).CG 4).2)=true by rw [hE];exact c5)).trans (by rw [hE])))).symm
  have c5p:=kz c5
  refine Aa ?_
  refine AB (.t2 0 5) ?_
  refine AV (AA (AJ ?_))
  refine Gt (Ay J J (IntWalk.i64_in _ (by first | omega | exact hi.1 | exact hi.2))) ?_
  refine Gm J ?_
  refine AR (AB (.t2 0 5) ?_)
  refine C3 (k+1) _ _ _ ?_ ?_ (.t2 5 0) (.refl _)
  · exact⟨by omega,by omega,hI13.trans ((QY hI11 (by omega)).trans ((AX (show(!((A7 V1 ls1 ev1).CG 4).2)=false by rw [hE];exact c5)).trans (by rw [hE]))),(Q2 hI14 (by omega) (by omega) hI23).mono (by omega) (by omega)⟩
  · omega
 have c1p:=kz c1
 refine Bg (AW (AW (Ah ?_)))
 refine Bs J .n ?_
 intro w1 hS
 have hS:=(hS.perm (Ax.perm (.c .h (.c .h (.c .h .n))))).A5
 refine⟨_,⟨V1,ls1,ev1,J,?ga2,J⟩,hS⟩
 case ga2=>exact(hI13.trans (by rw [show(5 - k).toNat=0 by omega];rfl)).symm
theorem Qe (b:Nat)(V:AN)(ls:Vector BD 4)(ev:List Ing.Event)(d:Int)(n m:Nat)(hF:AG.Fit (A7 V ls ev) n m)(hn:n≤500000)(hm:m≤500000):FO Tryz.prog 60 #[.pointer (some ⟨b,0,none⟩), .int .i64 d] [Ab.box b 101 (AN.enc V),Ab.DP (CQ 9 (AN.Ar V) ls),Ab.own (AN.last V) 56 16 ((ev).flatMap Ing.Event.enc)] (fun w=>(GV 2 GJ w∧2 ∉ Ch [Ab.box b 101 (AN.enc V),Ab.DP (CQ 9 (AN.Ar V) ls),Ab.own (AN.last V) 56 16 ((ev).flatMap Ing.Event.enc)])∧(GV 0 AH.DU w∧0 ∉ Ch [Ab.box b 101 (AN.enc V),Ab.DP (CQ 9 (AN.Ar V) ls),Ab.own (AN.last V) 56 16 ((ev).flatMap Ing.Event.enc)])∧(HP 7 w∧7 ∉ Ch [Ab.box b 101 (AN.enc V),Ab.DP (CQ 9 (AN.Ar V) ls),Ab.own (AN.last V) 56 16 ((ev).flatMap Ing.Event.enc)])∧(HP 8 w∧8 ∉ Ch [Ab.box b 101 (AN.enc V),Ab.DP (CQ 9 (AN.Ar V) ls),Ab.own (AN.last V) 56 16 ((ev).flatMap Ing.Event.enc)])) (fun v B=>∃ V' ls' ev',v = .tuple #[]∧A7 V' ls' ev'=AG.Np (A7 V ls ev) d∧B = [Ab.box b 101 (AN.enc V'),Ab.DP (CQ 9 (AN.Ar V') ls'),Ab.own (AN.last V') 56 16 ((ev').flatMap Ing.Event.enc)]):=by
 intro w hS0 hH
 obtain⟨⟨gl0,gm0⟩,⟨gl1,gm1⟩,⟨gl2,gm2⟩,⟨gl3,gm3⟩⟩:=hH
 refine Ap _ _ Tryz.func60 J J J (hS0) ?_
 refine CL (Gm J (AR (AA (Ag ?_))))
 refine Bw (.t3 8 0 1) ?_
 refine Be (.t (.t .h)) ?_
 refine Be (.t (.t .h)) ?_
 refine Be (.t (.t .h)) ?_
 refine IM (fun(i:Int) (V1:AN) (ls1:Vector BD 4) (ev1:List Ing.Event)=>0≤i∧i≤4∧(A7 V1 ls1 ev1)=AG.turns (A7 V ls ev) i.toNat) (fun(i:Int) (V1:AN) (ls1:Vector BD 4) (ev1:List Ing.Event)=>(4 - i).toNat) (fun(i:Int) (V1:AN) (ls1:Vector BD 4) (ev1:List Ing.Event)=> [(8, .int .i64 i)]) (fun(i:Int) (V1:AN) (ls1:Vector BD 4) (ev1:List Ing.Event)=> [Ab.box b 101 (AN.enc V1),Ab.DP (CQ 9 (AN.Ar V1) ls1),Ab.own (AN.last V1) 56 16 (ev1.flatMap Ing.Event.enc)]) (0) (V) (ls) (ev) ?_ J J (fun i V1 ls1 ev1 hI1=>?_)
 · exact⟨by omega,by omega,rfl⟩
 obtain⟨hI11,hI12,hI13⟩:=hI1
 refine Gs (Gt (BA J J) (AR (AA (Aq ?_))))
 refine Gc (fun c1=>?_) (fun c1=>?_)
 ·
  have c1p:=kz c1
  have hi:0≤i∧i < 4:=⟨by omega,by omega⟩
  refine Aa ?_
  refine AB (.t3 0 1 8) ?_
  refine AA (Aq (Ag (Gs (Gm J (Ga J (Gn (.t4 0 1 4 8) (AJ ?_)))))))
  refine Gm J (Gm J (Gm J (Gt (Bb J) (Gt (Al Gz J) ?_))))
  refine Gt (AQ Qm J J (by first | omega | exact hi.1 | exact hi.2) (by first | omega | exact hi.1 | exact hi.2)) ?_
  refine BL J jK (.c J (.c J .n)) (.c .h (.c .h (.c .h .n))) (SV _ V1 ls1 ev1 i (n+44) (m+44) hi (by rw [hI13];exact(AG.Kw hF i.toNat (by omega)).mono (by omega) (by omega)) (by omega) (by omega)) (fun w hS=>⟨gl0.pull gm0 hS (.c .h (.c .h (.c .h .n))),gl1.pull gm1 hS (.c .h (.c .h (.c .h .n))),gl2.pull gm2 hS (.c .h (.c .h (.c .h .n))),gl3.pull gm3 hS (.c .h (.c .h (.c .h .n)))⟩) (fun v1 B hv=>?_)
  obtain⟨y2,y3,y4,rfl,y5,rfl⟩:=hv
  refine AR (AB (.t3 0 1 8) ?_)
  refine AV (AA (AJ ?_))
  refine Gt (Ay J J (IntWalk.i64_in _ (by first | omega | exact hi.1 | exact hi.2))) ?_
  refine Gm J ?_
  refine AR (AB (.t3 0 1 8) ?_)
  refine C3 (i+1) _ _ _ ?_ ?_ (.t3 8 0 1) (.refl _)
  · exact⟨by omega,by omega,y5.trans (by rw [hI13];exact(Vp hI11).symm)⟩
  · omega
 have c1p:=kz c1
 obtain rfl:i=4:=by omega
 have hF1:=AG.Kw hF 4 (Nat.le_refl 4)
 rw [show(4:Nat)=(4:Int).toNat from rfl,← hI13] at hF1
 have hrl:(AE.CU V1.w d).2.1.length≤78:=AE.RB hF1.F8.Hb d
 have hrs:=AE.L3 (draw:=d) hF1.F8
 have hF4:=((hF1.land hrs.1).HQ hrs.2).mono (Nat.add_le_add_left hrl _) (Nat.add_le_add_left hrl _)
 refine Bg (AW (AW (Ah ?_)))
 refine AB (.t2 0 1) ?_
 refine AA (Gs (Gm J (Gt (Bb J) (Gt (Al Ea J) (Gt (AZ J Bf .m0 AN.l0 J) (Gm J ?_))))))
 refine BL J ic (.c J (.c J .n)) .n (NL V1.w d hF1.F8.Hb) (fun w hS=>gl1.pull gm1 hS .n) (fun v6 B hv=>?_)
 obtain⟨y7,rfl,y8,rfl⟩:=hv
 refine Gm J (Gt (AM J J) (Gt (AM J J) (Gt (AM J J) ?_)))
 refine BJ J N8 J (fun b1=>?_)
 refine AT (AL (AU.id AH.fl.len AH.fl.one) J J J EP J .h) ?_
 refine Ga J (Ga J (Gn (.t3 0 5 6) (Gs (Gm J (Gt (AZ J Bf .m0 (AU.id AH.fl.len AH.fl.one) J) (Gt (Bb J) (Gt (Al Ea J) ?_)))))))
 refine AT (AL AN.l0 J J J EP J (.t (.t .h))) ?_
 refine Gn (.t2 0 6) (Gs (Gm J (Gm J ?_)))
 refine BL J XX (.c J (.c J .n)) (.c (.t (.t .h)) (.c (.t (.t .h)) (.c (.t (.t .h)) (.c (.t .h) .n)))) (FJ _ { V1 with w:=(AE.CU V1.w d).1 } ls1 ev1 _ (AE.CU V1.w d).2.1 _ (by assumption) (HM hF1) (by omega) (Nat.le_trans hF1.last (by omega)) (fun e he c _=>hrs.2 e he)) (fun w hS=>⟨gl0.pull gm0 hS (.c (.t (.t .h)) (.c (.t (.t .h)) (.c (.t (.t .h)) (.c (.t .h) .n)))),gl1.pull gm1 hS (.c (.t (.t .h)) (.c (.t (.t .h)) (.c (.t (.t .h)) (.c (.t .h) .n))))⟩) (fun v10 B hv=>?_)
 obtain⟨y11,y12,y13,rfl,y14,rfl⟩:=hv
 refine Gn (.t1 0) (AJ (Gm J ?_))
 refine BL J Ts (.c J .n) (.c .h (.c .h (.c .h .n))) (EB _ y11 y12 y13 _ _ (by rw [y14];exact hF4) (by omega) (by omega)) (fun w hS=>⟨gl0.pull gm0 hS (.c .h (.c .h (.c .h .n))),gl1.pull gm1 hS (.c .h (.c .h (.c .h .n))),gl2.pull gm2 hS (.c .h (.c .h (.c .h .n))),gl3.pull gm3 hS (.c .h (.c .h (.c .h .n)))⟩) (fun v15 B hv=>?_)
 obtain⟨y16,y17,y18,rfl,y19,rfl⟩:=hv
 refine AR ?_
 refine Bs J .n ?_
 intro w1 hS
 have hS:=(hS.perm (Ax.perm (.c .h (.c .h (.c .h .n))))).A5
 refine⟨_,⟨y16,y17,y18,J,?ga1,J⟩,hS⟩
 case ga1=>rw [y19,y14,QA];show AG.BH (AG.HQ { (A7 V1 ls1 ev1) with w:=(AE.CU ((A7 V1 ls1 ev1)).w d).1 } (AE.CU ((A7 V1 ls1 ev1)).w d).2.1)=_;rw [hI13];rfl
theorem Mc (X:AK)(opt:Int)(w:World):Ev Tryz.prog 80 #[.agg X.enc.toArray, .int .i64 opt] w fun v w'=>v = .tuple #[.agg (X.Da opt).1.enc.toArray,BW (X.Da opt).2.1, .int .i64 (X.Da opt).2.2]∧CH w w':=by
 refine Ap [] [] Tryz.func80 J J J (St.start w []) ?_
 refine Gs ?_
 refine CB J J J (fun b1=>?_)
 refine BJ J Xq J (fun b2=>?_)
 refine Ga J (Ga J (Gn (.t3 1 2 4) (Gs (Gm J ?_))))
 refine BC J dp (.c J .n) (fun w hS=>GS _ w) ?_
 refine Gm J (Gt (AM J J) (Gt (AM J J) (Gt (AM J J) (Ga J (Ga J (Ga J (Gn (.t5 1 2 4 7 8) ?_)))))))
 refine Aq (Ag (Gs (Gt (AZ J EI .m1 (AU.id AK.fl.len AK.fl.one) J) ?_)))
 refine BC J eM (.c J .n) (fun w hS=>Gp _ w) ?_
 refine Gt (BZ J) (Ga J (Gn (.t6 1 2 4 7 8 16) ?_))
 refine Gc (fun c1=>?_) (fun c1=>?_)
 ·
  refine Gs (Gt (AZ J EI .m1 (AU.id AK.fl.len AK.fl.one) J) ?_)
  refine AT (AL (AU.id AK.fl.len AK.fl.one) J J J KE J .h) ?_
  refine Ga J (Ga J (Gn (.t3 4 5 6) (Ac (AS (AD ?_)))))
  refine AY J (.cell J .m0 (.inl ⟨(by rw [AK.fl.len];exact EI),J⟩) (.tmp J (.tmp J .n))) ?_
  intro w1 hS;refine⟨?_,hS.Ao⟩;simp only [AK.Da,c1,↓reduceIte,Bool.false_eq_true];rfl
 have c1p:=kz c1
 refine Gs (Gm J (Gt (BZ J) (Ga J (Gn (.t5 1 2 4 7 21) ?_))))
 refine Gc (fun c2=>?_) (fun c2=>?_)
 ·
  refine Gs (Gt (AZ J EI .m1 (AU.id AK.fl.len AK.fl.one) J) ?_)
  refine AT (AL (AU.id AK.fl.len AK.fl.one) J J J KE J .h) ?_
  refine Ga J (Ga J (Gn (.t3 4 5 6) (Ac (AS (AD ?_)))))
  refine AY J (.cell J .m0 (.inl ⟨(by rw [AK.fl.len];exact EI),J⟩) (.tmp J (.tmp J .n))) ?_
  intro w1 hS;refine⟨?_,hS.Ao⟩;simp only [AK.Da,c1,c2,↓reduceIte,Bool.false_eq_true];rfl
 have c2p:=kz c2
 have hk:=AK.PM (opt:=opt) (by simpa using c2)
 have hk1:0≤(AK.place opt).1∧(AK.place opt).1 < 3:=by rcases hk with ⟨_,e⟩ | ⟨_,e⟩<;>rw [e]<;>decide
 have ho:0≤opt∧opt≤255:=by rcases hk with ⟨e,_⟩ | ⟨e,_⟩<;>omega
 refine Gs (Gm J (Gt (Al L6 J) ?_))
 refine Gt (AQ Lt J J (by omega) (by omega)) ?_
 refine Gt (AI J A8 .m1 (AK.l3.comp (AU.ar (n:=3) B9 (by omega))) J J) ?_
 refine Gt (Cm J J) (Ga J (Gn (.t5 1 2 4 7 25) ?_))
 refine Gc (fun c3=>?_) (fun c3=>?_)
 ·
  refine Gs (Gt (AZ J EI .m1 (AU.id AK.fl.len AK.fl.one) J) ?_)
  refine AT (AL (AU.id AK.fl.len AK.fl.one) J J J KE J .h) ?_
  refine Ga J (Ga J (Gn (.t3 4 5 6) (Ac (AS (AD ?_)))))
  refine AY J (.cell J .m0 (.inl ⟨(by rw [AK.fl.len];exact EI),J⟩) (.tmp J (.tmp J .n))) ?_
  intro w1 hS;refine⟨?_,hS.Ao⟩;simp only [AK.Da,c1,c2,c3,↓reduceIte,Bool.false_eq_true];rfl
 have c3p:=kz c3
 refine Aa ?_
 refine AB (.t4 1 2 4 7) ?_
 refine AV (AA (Gs (Gm J (Gt (Al L6 J) ?_))))
 refine Gt (AQ Lt J J (by omega) (by omega)) ?_
 refine AT (AL (AK.l3.comp (AU.ar (n:=3) B9 (by omega))) J J J DO J (.t .h)) ?_
 refine Gn (.t3 1 2 4) (Aq ?_)
 refine BE (N:=6) [0,0,2,7,15,31] mix (by kernel_rfl) J ?_
 refine Pf 0 J (AZ J EI .m1 (AU.id AK.fl.len AK.fl.one) J) (Pf 1 J (AF J) ?_)
 refine BI 2 J J (by kernel_rfl) (LI (J4 (D0 TD (.c J (.c J .n)) (fun w hS=>DC _ _ (by first | assumption | omega) (by first | assumption | omega) w)))) ?_
 refine Aj 3 J (by kernel_rfl) ?_
 refine AT (AL (AU.id AK.fl.len AK.fl.one) J J J KE J .h) ?_
 refine BO J ⟨?_,?_⟩
 · exact(Pk (Pk (Pk As)))
 refine Pf 4 J (A0 J) (Pf 5 J (A0 J) ?_)
 refine A2 (by kernel_rfl) ?_
 refine AB (.t3 4 5 6) ?_
 refine AA (Ac ?_)
 refine AY J (.cell J .m0 (.inl ⟨(by rw [AK.fl.len];exact EI),J⟩) (.tmp J (.tmp J .n))) ?_
 intro w1 hS;refine⟨?_,hS.Ao⟩;simp only [AK.Da,c1,c2,c3,↓reduceIte,Bool.false_eq_true];rfl
theorem OD (X:AK)(opt:Int)(w:World):Ev Tryz.prog 81 #[.agg X.enc.toArray, .int .i64 opt] w fun v w'=>v = .tuple #[.agg (X.Ask opt).1.enc.toArray,BW (X.Ask opt).2.1, .int .i64 (X.Ask opt).2.2]∧CH w w':=by
 refine Ap [] [] Tryz.func81 J J J (St.start w []) ?_
 refine Gs ?_
 refine CB J J J (fun b1=>?_)
 refine BJ J Xq J (fun b2=>?_)
 refine Ga J (Ga J (Gn (.t3 1 2 4) (Gs (Gm J ?_))))
 refine BC J dp (.c J .n) (fun w hS=>GS _ w) ?_
 refine Gm J (Gt (AM J J) (Gt (AM J J) (Gt (AM J J) (Ga J (Ga J (Ga J (Gn (.t5 1 2 4 7 9) ?_)))))))
 refine Aq (Ag (Gs (Gt (AZ J EI .m1 (AU.id AK.fl.len AK.fl.one) J) ?_)))
 refine BC J eM (.c J .n) (fun w hS=>Gp _ w) ?_
 refine Gt (BZ J) (Ga J (Gn (.t6 1 2 4 7 9 16) ?_))
 refine Gc (fun c1=>?_) (fun c1=>?_)
 ·
  refine Gs (Gt (AZ J EI .m1 (AU.id AK.fl.len AK.fl.one) J) ?_)
  refine AT (AL (AU.id AK.fl.len AK.fl.one) J J J KE J .h) ?_
  refine Ga J (Ga J (Gn (.t3 4 5 6) (Ac (AS (AD ?_)))))
  refine AY J (.cell J .m0 (.inl ⟨(by rw [AK.fl.len];exact EI),J⟩) (.tmp J (.tmp J .n))) ?_
  intro w1 hS;refine⟨?_,hS.Ao⟩;simp only [AK.Ask,c1,↓reduceIte,Bool.false_eq_true];rfl
 have c1p:=kz c1
 refine Gs (Gm J (Gt (BZ J) (Ga J (Gn (.t5 1 2 4 7 21) ?_))))
 refine Gc (fun c2=>?_) (fun c2=>?_)
 ·
  refine Gs (Gt (AZ J EI .m1 (AU.id AK.fl.len AK.fl.one) J) ?_)
  refine AT (AL (AU.id AK.fl.len AK.fl.one) J J J KE J .h) ?_
  refine Ga J (Ga J (Gn (.t3 4 5 6) (Ac (AS (AD ?_)))))
  refine AY J (.cell J .m0 (.inl ⟨(by rw [AK.fl.len];exact EI),J⟩) (.tmp J (.tmp J .n))) ?_
  intro w1 hS;refine⟨?_,hS.Ao⟩;simp only [AK.Ask,c1,c2,↓reduceIte,Bool.false_eq_true];rfl
 have c2p:=kz c2
 have hk:=AK.Lu (opt:=opt) (by simpa using c2)
 have hk1:0≤(AK.place opt).1∧(AK.place opt).1 < 3:=by rcases hk with ⟨_,e⟩ | ⟨_,e⟩<;>rw [e]<;>decide
 have ho:0≤opt∧opt≤255:=by rcases hk with ⟨e,_⟩ | ⟨e,_⟩<;>omega
 refine Gs (Gm J (Gt (Al Kg J) ?_))
 refine Gt (AQ Lt J J (by omega) (by omega)) ?_
 refine Gt (AI J A8 .m1 (AK.l4.comp (AU.ar (n:=3) B9 (by omega))) J J) ?_
 refine Gt (Cm J J) (Ga J (Gn (.t5 1 2 4 7 25) ?_))
 refine Gc (fun c3=>?_) (fun c3=>?_)
 ·
  refine Gs (Gt (AZ J EI .m1 (AU.id AK.fl.len AK.fl.one) J) ?_)
  refine AT (AL (AU.id AK.fl.len AK.fl.one) J J J KE J .h) ?_
  refine Ga J (Ga J (Gn (.t3 4 5 6) (Ac (AS (AD ?_)))))
  refine AY J (.cell J .m0 (.inl ⟨(by rw [AK.fl.len];exact EI),J⟩) (.tmp J (.tmp J .n))) ?_
  intro w1 hS;refine⟨?_,hS.Ao⟩;simp only [AK.Ask,c1,c2,c3,↓reduceIte,Bool.false_eq_true];rfl
 have c3p:=kz c3
 refine Aa ?_
 refine AB (.t4 1 2 4 7) ?_
 refine AV (AA (Gs (Gm J (Gt (Al Kg J) ?_))))
 refine Gt (AQ Lt J J (by omega) (by omega)) ?_
 refine AT (AL (AK.l4.comp (AU.ar (n:=3) B9 (by omega))) J J J DO J (.t .h)) ?_
 refine Gn (.t3 1 2 4) (Aq ?_)
 refine BE (N:=6) [0,0,2,7,15,31] mix (by kernel_rfl) J ?_
 refine Pf 0 J (AZ J EI .m1 (AU.id AK.fl.len AK.fl.one) J) (Pf 1 J (AF J) ?_)
 refine BI 2 J J (by kernel_rfl) (LI (J4 (D0 TD (.c J (.c J .n)) (fun w hS=>DC _ _ (by first | assumption | omega) (by first | assumption | omega) w)))) ?_
 refine Aj 3 J (by kernel_rfl) ?_
 refine AT (AL (AU.id AK.fl.len AK.fl.one) J J J KE J .h) ?_
 refine BO J ⟨?_,?_⟩
 · exact(Pk (Pk (Pk As)))
 refine Pf 4 J (A0 J) (Pf 5 J (A0 J) ?_)
 refine A2 (by kernel_rfl) ?_
 refine AB (.t3 4 5 6) ?_
 refine AA (Ac ?_)
 refine AY J (.cell J .m0 (.inl ⟨(by rw [AK.fl.len];exact EI),J⟩) (.tmp J (.tmp J .n))) ?_
 intro w1 hS;refine⟨?_,hS.Ao⟩;simp only [AK.Ask,c1,c2,c3,↓reduceIte,Bool.false_eq_true];rfl
theorem R5 (b:Nat)(V:AN)(ls:Vector BD 4)(ev:List Ing.Event)(k:Int)(n m:Nat)(hk:0≤k∧k < 4)(hF:AG.Fit (A7 V ls ev) n m)(hn:n≤500000)(hm:m≤500000):FO Tryz.prog 61 #[.pointer (some ⟨b,0,none⟩), .pointer (some ⟨b,165+k.toNat * 22,none⟩)] [Ab.box b 101 (AN.enc V),Ab.DP (CQ 9 (AN.Ar V) ls),Ab.own (AN.last V) 56 16 ((ev).flatMap Ing.Event.enc)] (fun w=>(GV 2 GJ w∧2 ∉ Ch [Ab.box b 101 (AN.enc V),Ab.DP (CQ 9 (AN.Ar V) ls),Ab.own (AN.last V) 56 16 ((ev).flatMap Ing.Event.enc)])∧(GV 0 AH.DU w∧0 ∉ Ch [Ab.box b 101 (AN.enc V),Ab.DP (CQ 9 (AN.Ar V) ls),Ab.own (AN.last V) 56 16 ((ev).flatMap Ing.Event.enc)])∧(HP 7 w∧7 ∉ Ch [Ab.box b 101 (AN.enc V),Ab.DP (CQ 9 (AN.Ar V) ls),Ab.own (AN.last V) 56 16 ((ev).flatMap Ing.Event.enc)])∧(HP 8 w∧8 ∉ Ch [Ab.box b 101 (AN.enc V),Ab.DP (CQ 9 (AN.Ar V) ls),Ab.own (AN.last V) 56 16 ((ev).flatMap Ing.Event.enc)])) (fun v B=>∃ V' ls' ev',v = .tuple #[]∧A7 V' ls' ev'=AG.IU (A7 V ls ev) k∧B = [Ab.box b 101 (AN.enc V'),Ab.DP (CQ 9 (AN.Ar V') ls'),Ab.own (AN.last V') 56 16 ((ev').flatMap Ing.Event.enc)]):=by
 intro w hS0 hH
 obtain⟨⟨gl0,gm0⟩,⟨gl1,gm1⟩,⟨gl2,gm2⟩,⟨gl3,gm3⟩⟩:=hH
 refine Ap _ _ Tryz.func61 J J J (hS0) ?_
 refine Aq ?_
 refine Fj (k:=k) hk.1 hk.2 (fun sv sl hsv hlv hln=>?_)
 refine AJ (Gm J (Gt (BF Xc Xx J (.cons A4.l0 J J J (.cons A4.l1 J J J .nil))) (Gt (Bb J) ?_)))
 refine AT (AL (AU.A3 V hk.1 hk.2) J J J U8 J (.t (.t (.t .h)))) ?_
 refine Gn (.t2 0 1) (CL ?_)
 refine Gt (E8 Tryz.underlying145 DO gj J (.cons (AU.arr (n:=2) (i:=0) B9 (by decide) (by decide)) J J J (.cons (AU.arr (n:=2) (i:=1) B9 (by decide) (by decide)) J J J .nil))) ?_
 refine Gm J (AR (AA (Ag ?_)))
 refine Bw (.t4 12 0 1 11) ?_
 refine Be (.t (.t (.t .h))) ?_
 refine Dx (fun(j:Int) (t:AK) (g:Page.Pg)=>0≤j∧j≤2∧t=(E9 j.toNat).1∧g=(E9 j.toNat).2) (fun(j:Int) (t:AK) (g:Page.Pg)=>(2 - j).toNat) (fun(j:Int) (t:AK) (g:Page.Pg)=> [(12, .int .i64 j)]) (fun(j:Int) (t:AK) (g:Page.Pg)=> [Ab.box b 101 (Ka V k (Ef t g))]) (0) (default) (⟨0,false,[],false⟩) ?_ J J (fun j t g hI1=>?_)
 · exact⟨by omega,by omega,rfl,rfl⟩
 obtain⟨hI11,hI12,hI13,hI14⟩:=hI1
 refine Gs (Gt (BA J J) (AR (AA (Aq ?_))))
 refine Gc (fun c1=>?_) (fun c1=>?_)
 ·
  have c1p:=kz c1
  refine Aa ?_
  refine AB (.t4 0 1 11 12) ?_
  refine AA (Aq (Ag (Gs ?_)))
  refine Gt (K9 B9 Tryz.underlying145 DO A8 J J (by first | omega | exact hk.1 | exact hk.2 | (have h1:=F1 t (EC j);have h2:=IY (t.Da (EC j)).1 (EC j);dsimp only [EC,Ef] at *;(try simp only [List.length_nil]);omega)) (by first | omega | exact hk.1 | exact hk.2 | (have h1:=F1 t (EC j);have h2:=IY (t.Da (EC j)).1 (EC j);dsimp only [EC,Ef] at *;(try simp only [List.length_nil]);omega)) J) ?_
  refine Ga J (Gn (.t5 0 1 5 11 12) (Gs (Ga J (Ga J (Gn (.t6 0 1 5 7 11 12) (CL (Gm J ?_)))))))
  refine Gm J (Gt (Bb J) (Gt (Al Lk J) (Gt (AZ J EI .m0 ((AU.A3 V hk.1 hk.2).comp A4.l2) J) (Gm J ?_))))
  refine BC J jO (.c J (.c J .n)) (fun w hS=>Mc _ _ w) ?_
  refine Gm J (Gt (AM J J) (Gt (AM J J) (Gt (AM J J) (Gt (Bb J) (Gt (Al Lk J) ?_)))))
  refine AT (AL ((AU.A3 V hk.1 hk.2).comp A4.l2) J J J KE J .h) ?_
  refine Ga J (Gn (.t7 0 1 5 6 7 11 12) (Gs (Gm J (Gt (B4 J J) (Gn (.t8 0 1 5 6 7 11 12 29) ?_)))))
  refine Gc (fun c2=>?_) (fun c2=>?_)
  ·
   have c2p:=kz c2
   refine AJ (Gm J (Gm J (Gt (Bb J) (Gt (Al Lk J) (Gt (AZ J EI .m0 ((AU.A3 V hk.1 hk.2).comp A4.l2) J) (Gm J ?_))))))
   refine BC J ig (.c J (.c J .n)) (fun w hS=>OD _ _ w) ?_
   refine Gm J (Gt (AM J J) (Gt (AM J J) (Gt (AM J J) (Gt (Bb J) (Gt (Al Lk J) ?_)))))
   refine AT (AL ((AU.A3 V hk.1 hk.2).comp A4.l2) J J J KE J .h) ?_
   refine Ga J (Gn (.t6 0 1 6 7 11 12) (AJ (Gm J (Gm J (Gt (Bb J) (Gt (Al D2 J) (Gt (AZ J C4 .m0 ((AU.A3 V hk.1 hk.2).comp A4.l4) J) ?_)))))))
   refine Gm J (Gm J ?_)
   refine Gt (CJ J J (by first | omega | exact hk.1 | exact hk.2 | (have h1:=F1 t (EC j);have h2:=IY (t.Da (EC j)).1 (EC j);dsimp only [EC,Ef] at *;(try simp only [List.length_nil]);omega))) ?_
   refine BC J Zr (.c J (.c J .n)) (fun w hS=>Eh _ _ (by simp only [List.length_append];have h1:=F1 t (EC j);have h2:=IY (t.Da (EC j)).1 (EC j);dsimp only [EC,Ef] at *;(try simp only [List.length_nil]);omega) w) ?_
   refine Gm J (Gt (AM J J) (Gt (AM J J) (Gt (Bb J) (Gt (Al D2 J) ?_))))
   refine AT (AL ((AU.A3 V hk.1 hk.2).comp A4.l4) J J J Fb J .h) ?_
   refine AR (AB (.t4 0 1 11 12) ?_)
   refine AV (AA ?_)
   refine Gw (fun _=> .h) (congrArg (Ka V k) (show _=Ef (Iz t (EC j)) (Ld t g (EC j)) from by rw [Ef,Ld,show Iz t (EC j)=_ from BG c2,show NN t (EC j)=_ from BG c2];rfl)) ?_
   refine AJ ?_
   refine Gt (Ay J J (IntWalk.i64_in _ (by first | omega | exact hk.1 | exact hk.2 | (have h1:=F1 t (EC j);have h2:=IY (t.Da (EC j)).1 (EC j);dsimp only [EC,Ef] at *;(try simp only [List.length_nil]);omega)))) ?_
   refine Gm J ?_
   refine AR (AB (.t4 0 1 11 12) ?_)
   refine B2 (j+1) _ _ ?_ ?_ (.t4 12 0 1 11) (.refl _)
   · exact⟨by omega,by omega,by rw [Hg hI11,← hI13,← hI14],by rw [Hg hI11,← hI13,← hI14]⟩
   · omega
  have c2p:=kz c2
  refine Aa ?_
  refine AB (.t6 0 1 6 7 11 12) ?_
  refine AA (AJ (Gm J (Gm J (Gt (Bb J) (Gt (Al D2 J) (Gt (AZ J C4 .m0 ((AU.A3 V hk.1 hk.2).comp A4.l4) J) (Gm J ?_)))))))
  refine Gm J ?_
  refine Gt (CJ J J (by first | omega | exact hk.1 | exact hk.2 | (have h1:=F1 t (EC j);have h2:=IY (t.Da (EC j)).1 (EC j);dsimp only [EC,Ef] at *;(try simp only [List.length_nil]);omega))) ?_
  refine BC J Zr (.c J (.c J .n)) (fun w hS=>Eh _ _ (by simp only [List.length_append];have h1:=F1 t (EC j);have h2:=IY (t.Da (EC j)).1 (EC j);dsimp only [EC,Ef] at *;(try simp only [List.length_nil]);omega) w) ?_
  refine Gm J (Gt (AM J J) (Gt (AM J J) (Gt (Bb J) (Gt (Al D2 J) ?_))))
  refine AT (AL ((AU.A3 V hk.1 hk.2).comp A4.l4) J J J Fb J .h) ?_
  refine AR (AB (.t4 0 1 11 12) ?_)
  refine AV (AA ?_)
  refine Gw (fun _=> .h) (congrArg (Ka V k) (show _=Ef (Iz t (EC j)) (Ld t g (EC j)) from by rw [Ef,Ld,show Iz t (EC j)=_ from AX c2,show NN t (EC j)=_ from AX c2];rfl)) ?_
  refine AJ ?_
  refine Gt (Ay J J (IntWalk.i64_in _ (by first | omega | exact hk.1 | exact hk.2 | (have h1:=F1 t (EC j);have h2:=IY (t.Da (EC j)).1 (EC j);dsimp only [EC,Ef] at *;(try simp only [List.length_nil]);omega)))) ?_
  refine Gm J ?_
  refine AR (AB (.t4 0 1 11 12) ?_)
  refine B2 (j+1) _ _ ?_ ?_ (.t4 12 0 1 11) (.refl _)
  · exact⟨by omega,by omega,by rw [Hg hI11,← hI13,← hI14],by rw [Hg hI11,← hI13,← hI14]⟩
  · omega
 have c1p:=kz c1
 obtain rfl:j=2:=by omega
 refine Bg (AW (AW (Ah ?_)))
 refine AB (.t2 0 1) ?_
 refine AA (Aq ?_)
 refine E2 A6 9 1 ?_
 refine E2 A6 9 1 ?_
 refine E2 A6 9 1 ?_
 refine Ep (.c (.t (.t .h)) (.c (.t .h) (.c .h (.c .h (.c (.t (.t (.t .h))) .n))))) ?_
 refine Hp hk.1 hk.2 (by rfl) (by rfl) (by rfl) ?_
 refine AJ (Gm J (Gm J ?_))
 refine Ak J VN (.c J (.c J (.c J .n))) (.c .h (.c .h (.c (.t (.t (.t .h))) .n))) (EZ _ (AN.A3 V k (Ef t g)) (ls.put k ⟨[],[],[]⟩) ev k _ hk (by rw [Vector.CA hk.1 hk.2];exact Nat.zero_le _)) (fun v4 B hv=>?_)
 obtain⟨y5,y6,y7,rfl,y8,rfl⟩:=hv
 refine Gn (.t1 0) (AJ (Gm J ?_))
 refine BL J Ts (.c J .n) (.c .h (.c .h (.c .h .n))) (EB _ y5 y6 y7 (n+1) m (by rw [y8,(show A7 (AN.A3 V k (Ef t g)) (ls.put k ⟨[],[],[]⟩) ev=AG.set (A7 V ls ev) k (Cw (Ef t g) bY) from JU V ls ev hk.1 hk.2 _ _)];exact(hF.comes hk.1 hk.2 t g).tell hk.1 hk.2 (show AG.G9.length≤_ by decide)) (by omega) (by omega)) (fun w hS=>⟨gl0.pull gm0 hS (.c .h (.c .h (.c .h .n))),gl1.pull gm1 hS (.c .h (.c .h (.c .h .n))),gl2.pull gm2 hS (.c .h (.c .h (.c .h .n))),gl3.pull gm3 hS (.c .h (.c .h (.c .h .n)))⟩) (fun v9 B hv=>?_)
 obtain⟨y10,y11,y12,rfl,y13,rfl⟩:=hv
 refine AR ?_
 refine Bs J .n ?_
 intro w1 hS
 have hS:=(hS.perm (Ax.perm (.c .h (.c .h (.c .h .n))))).A5
 refine⟨_,⟨y10,y11,y12,J,?ga1,J⟩,hS⟩
 case ga1=>rw [y13,y8,(show A7 (AN.A3 V k (Ef t g)) (ls.put k ⟨[],[],[]⟩) ev=AG.set (A7 V ls ev) k (Cw (Ef t g) bY) from JU V ls ev hk.1 hk.2 _ _),hI13,hI14];unfold AG.IU;rw [← Ow];rfl
theorem HX (b:UInt8)(w:World):Ev Tryz.prog 70 #[.int .u8 (b.toNat:Int)] w fun v w'=>v = .bool (Bh.FP b)∧CH w w':=by
 refine Ap [] [] Tryz.func70 J J J (St.start w []) ?_
 refine Gs (Ga J (Gn (.t1 0) (Gs (Gm J (Gt (CZ J J) (Gm J (Bp 5 J J (fun q=>AF J) ?_)))))))
 refine Bp 5 J J (fun q=>BA (Bo J q) J) (Gt (BQ J J (fun h=>h)) (Ga J (Gn (.t1 2) (Ac ?_))))
 refine AY J (.tmp J .n) ?_
 intro w1 hS;refine⟨?_,hS.Ao⟩;rfl
theorem O4 {t0:Nat}(l:BR)(qs:List Ad)(w:World)(r0:Rd w l.queue t0 1 (qs.flatMap A6)):Ev Tryz.prog 45 #[.agg l.enc.toArray] w fun v w'=>v = .bool (Bh.Bk l qs)∧CH w w':=by
 have hl:=r0.Lz C7 (by decide)
 refine Ap [] [] Tryz.func45 J J J (St.start w []) ?_
 refine Gs ?_
 refine CB J J J (fun b1=>?_)
 refine Ga J (Gn (.t1 1) (CL (Gt (Al KF J) (Gt (AI J CO .m0 BR.l0 J J) (Gt (BN J Tryz.underlying9 J) (Gt (Cs J J) (Gm J ?_)))))))
 refine Bj 10 J J (fun q=>Al Gh J) (Bj 10 J J (fun q=>AI (cF J q) EU .m0 BR.l3 J J) (Bj 10 J J (fun q=>Au J Tryz.underlying52 (cF J q)) (Bj 10 J J (fun q=>Cs (cF J q) J) ?_)))
 refine Gt (Ba J J (fun h=>by rw [h];rfl)) ?_
 refine Gm J (Bj 16 J J (fun q=>Al Pt J) (Bj 16 J J (fun q=>AI (cF J q) D3 .m0 BR.l1 J J) (Bj 16 J J (fun q=>AF (cF J q)) ?_)))
 refine Db (t:=19) J J J (fun qc q=>Al KF J) ?_
 refine Db (t:=19) J J J (fun qc q=>AI (Bo J (by rw [qc,q];rfl)) CO .m0 BR.l0 J J) ?_
 refine Db (t:=19) J J J (fun qc q=>BN J Tryz.underlying9 (Bo J (by rw [qc,q];rfl))) ?_
 refine Db (t:=19) J J J (fun qc q=>Cs (Bo J (by rw [qc,q];rfl)) J) ?_
 refine Bj 16 J J (fun q=>BQ (cF J q) J (fun h=>by rw [q,h];rfl)) ?_
 refine Gt (Ba J J (fun h=>by rw [h];rfl)) ?_
 refine Gm J (Bj 26 J J (fun q=>Al Px J) (Bj 26 J J (fun q=>AI (cF J q) D3 .m0 BR.l2 J J) (Bj 26 J J (fun q=>AF (cF J q)) ?_)))
 refine Db (t:=29) J J J (fun qc q=>Al KF J) ?_
 refine Db (t:=29) J J J (fun qc q=>AI (Bo J (by rw [qc,q];rfl)) CO .m0 BR.l0 J J) ?_
 refine Db (t:=29) J J J (fun qc q=>DK (Bo J (by rw [qc,q];rfl)) J) ?_
 refine Db (t:=29) J J J (fun qc q=>AF (Bo J (by rw [qc,q];rfl))) ?_
 refine DF (t:=33) J J J (fun qc q=>Al Pt J) ?_
 refine DF (t:=33) J J J (fun qc q=>AI (Bo J (by rw [qc,q];rfl)) D3 .m0 BR.l1 J J) ?_
 refine Db (t:=29) J J J (fun qc q=>Ba (Bo J (by rw [qc,q];rfl)) J (fun h=>by rw [qc,q,h];rfl)) ?_
 refine Bj 26 J J (fun q=>BQ (cF J q) J (fun h=>by rw [q,h];rfl)) ?_
 refine Gt (Ba J J (fun h=>by rw [h];rfl)) ?_
 refine Gn (.t2 1 38) ?_
 refine Gc (fun c1=>?_) (fun c1=>?_)
 ·
  refine Gs (Ga J (Gn (.t1 2) (Ac (AD ?_))))
  refine AY J (.tmp J .n) ?_
  intro w1 hS;refine⟨congrArg Value.bool ?_,hS.Ao⟩;rw [Bh.Bk,show Bh.Ju l=true from c1];rfl
 have c1p:=kz c1
 have hq:(l.queue.len:Int)≤6:=by omega
 refine Aa ?_
 refine AB (.t1 1) ?_
 refine AA (Aq (Aq ?_))
 refine BE (N:=9) [0,1,3,0,8,24,63,127,0] mix (by kernel_rfl) J ?_
 refine Pf 0 J (Al Gh J) (Pf 1 J (AI J EU .m0 BR.l3 J J) (Pf 3 J (Al KF J) (Pf 4 J (AI J CO .m0 BR.l0 J J) (Pf 8 J (AF J) ?_))))
 refine KU 2 5 J J (by kernel_rfl) ?_ ?_
 ·
  refine BL J X1 (.c J .n) .n (B6 _ _ (by first | assumption | omega)) (fun w hS=>(Kn.I7 r0) w hS) (fun v1 B hv=>?_)
  obtain⟨y2,rfl,y3,rfl⟩:=hv
  refine Bu J ⟨?_,?_⟩
  · exact(Po J (AF J) J J (Po J (AI J CO .m1 BR.l0 J J) J J (Po J (Al KF J) J J (Pk (Pk As)))))
  refine Aj 5 J (by kernel_rfl) ?_
  refine Fe A6 C7 J Tryz.underlying52 Ed SJ J (by decide) (by decide) J J (fun b2=>?_)
  refine Bu J ⟨?_,?_⟩
  · exact(Po J (AF J) J J (Pk (Pk (Po J (AI J EU .m2 BR.l3 J J) J J (Po J (Al Gh J) J J As)))))
  refine Aj 6 J (by kernel_rfl) ?_
  refine CW C7 J Tryz.underlying52 Ed SJ J Yf (by decide) (by decide) J J (fun w hS=>Src.D4 Tryz.underlying52 ((Kn.own .m0) w hS)) (by(try dsimp only);omega) (fun _=>(.t .h)) (fun h5 h5l h5z=>?_)
  refine Bu J ⟨?_,?_⟩
  · exact(Po J (AF J) J J (Pk (Pk (Pk (Pk As)))))
  refine Pf 7 J (Au J Tryz.underlying52 J) ?_
  refine A2 (by kernel_rfl) ?_
  refine AB (.t3 45 46 47) ?_
  refine AA (Ag ?_)
  refine Bw (.t3 47 45 46) ?_
  refine Ck (fun(k:Int)=>0≤k∧k≤((qs ++ [l.now]).length:Int)∧Bh.Bk l qs=((qs ++ [l.now]).drop k.toNat).all Bh.GX) (fun(k:Int)=>(((qs ++ [l.now]).length:Int) - k).toNat) (fun(k:Int)=> [(47, .int .i64 k)]) (fun(k:Int)=> []) (0) ?_ J J (fun k hI1=>?_)
  · exact⟨by omega,by omega,by rw [Bh.Bk,show Bh.Ju l=false from c1];rfl⟩
  obtain⟨hI11,hI12,hI13⟩:=hI1
  refine Gs (Gt (BA J J) (AR (AA (Aq ?_))))
  refine Gc (fun c2=>?_) (fun c2=>?_)
  ·
   have c2p:=kz c2
   have hk:k < ((qs ++ [l.now]).length:Int):=by simp only [List.length_append,List.length_cons,List.length_nil] at *;omega
   have hk7:((qs ++ [l.now]).length:Int)≤7:=by simp only [List.length_append,List.length_cons,List.length_nil] at *;omega
   refine Aa ?_
   refine AB (.t3 45 46 47) ?_
   refine AA (Aq (Ag (Gs ?_)))
   refine Gt (Bz JO (by decide) (Kn.own .m1) J J (by omega) (by simp only [List.length_append,List.length_cons,List.length_nil] at *;omega)) ?_
   refine Gt (DY J CO (Kn.own .m1) (by omega)) ?_
   refine Ga J (Gn (.t4 4 45 46 47) (CL (Gm J (Gt (BN J Tryz.underlying9 J) (Gt (Cs J J) (Gn (.t5 4 45 46 47 53) ?_))))))
   refine Gc (fun c3=>?_) (fun c3=>?_)
   ·
    refine Gs (Ga J (Gn (.t1 2) (Ac (AD (AS (AD (AD ?_)))))))
    refine AS (AD ?_)
    refine AY J (.tmp J .n) ?_
    intro w1 hS;refine⟨congrArg Value.bool ?_,hS.Ao⟩;rw [hI13,Bh.FX (d:= []) hI11 hk,Bh.GX,c3];rfl
   have c3p:=kz c3
   refine Aa ?_
   refine AB (.t4 4 45 46 47) ?_
   refine AA (Gs (Gm J (Gt (BN J Tryz.underlying9 J) (Gm J (Gn (.t6 4 45 46 47 55 56) (Ag ?_))))))
   refine Bw (.t6 56 4 45 46 47 55) ?_
   refine Ck (fun(i:Int)=>0≤i∧i≤(((qs ++ [l.now]).getD k.toNat []).length:Int)∧Bh.GX ((qs ++ [l.now]).getD k.toNat [])=(((qs ++ [l.now]).getD k.toNat []).drop i.toNat).all Bh.FP) (fun(i:Int)=>((((qs ++ [l.now]).getD k.toNat []).length:Int) - i).toNat) (fun(i:Int)=> [(56, .int .i64 i)]) (fun(i:Int)=> []) (0) ?_ J J (fun i hI2=>?_)
   · exact⟨by omega,by omega,by rw [Bh.GX,c3];rfl⟩
   obtain⟨hI21,hI22,hI23⟩:=hI2
   refine Gs (Gt (BA J J) (AR (AA (Aq ?_))))
   refine Gc (fun c4=>?_) (fun c4=>?_)
   ·
    have c4p:=kz c4
    refine Aa ?_
    refine AB (.t6 4 45 46 47 55 56) ?_
    refine AA (Aq (Ag (Gs (Gm J (Ga J (Gn (.t7 4 5 45 46 47 55 56) (Gs ?_)))))))
    refine Gm J (Gm J ?_)
    refine Gt (Bt Tryz.underlying9 J J (by omega) (by omega)) ?_
    refine BC J fD (.c J .n) (fun w hS=>HX _ w) ?_
    refine Gt (BZ J) (Gn (.t7 4 45 46 47 55 56 63) ?_)
    refine Gc (fun c5=>?_) (fun c5=>?_)
    ·
     have c5p:=kz c5
     refine Gs (Ga J (Gn (.t1 2) (Ac (AS (AD (AD (AS ?_)))))))
     refine AS (AD (AD (AS (AD ?_))))
     refine AY J (.tmp J .n) ?_
     intro w1 hS;refine⟨congrArg Value.bool ?_,hS.Ao⟩;rw [hI13,Bh.FX (d:= []) hI11 hk,hI23,Bh.FX (d:=0) hI21 (by omega),show Bh.FP _=false from by simpa using c5];rfl
    have c5p:=kz c5
    refine Aa ?_
    refine AB (.t6 4 45 46 47 55 56) ?_
    refine AV (AA (AJ ?_))
    refine Gt (Ay J J (IntWalk.i64_in _ (by omega))) ?_
    refine Gm J ?_
    refine AR (AB (.t6 4 45 46 47 55 56) ?_)
    refine CC (i+1) ?_ ?_ (.t6 56 4 45 46 47 55) (.refl _)
    · exact⟨by omega,by omega,by rw [hI23,Bh.FX (d:=0) hI21 (by omega),show Bh.FP _=true from by simpa using c5];rfl⟩
    · omega
   have c4p:=kz c4
   refine Bg (AW (AW (Ah ?_)))
   refine AB (.t3 45 46 47) ?_
   refine AV (AA (AJ ?_))
   refine Gt (Ay J J (IntWalk.i64_in _ (by omega))) ?_
   refine Gm J ?_
   refine AR (AB (.t3 45 46 47) ?_)
   refine CC (k+1) ?_ ?_ (.t3 47 45 46) (.refl _)
   · exact⟨by omega,by omega,by rw [hI13,Bh.FX (d:= []) hI11 hk,hI23,show i.toNat=((qs ++ [l.now]).getD k.toNat []).length from by omega,List.drop_length];rfl⟩
   · omega
  have c2p:=kz c2
  have hk:¬ k < ((qs ++ [l.now]).length:Int):=by simp only [List.length_append,List.length_cons,List.length_nil] at *;omega
  refine Bg (AW (AW (Ah ?_)))
  refine AB (.nil _) ?_
  refine AA (Gs (Ga J (AR (AA (Ac ?_)))))
  refine AY J (.tmp J .n) ?_
  intro w1 hS;refine⟨congrArg Value.bool ?_,hS.Ao⟩;rw [hI13,show k.toNat=(qs ++ [l.now]).length from by omega,List.drop_length];rfl
 ·
  refine Fe A6 C7 J Tryz.underlying52 Ed SJ J (by decide) (by decide) J J (fun b3=>?_)
  refine Bu J ⟨?_,?_⟩
  · exact(Po J (AF J) J J (Pk (Pk (Po J (AI J EU .m1 BR.l3 J J) J J (Po J (Al Gh J) J J As)))))
  refine Aj 2 J (by kernel_rfl) ?_
  refine BL J X1 (.c J .n) .n (B6 _ _ (by first | assumption | omega)) (fun w hS=>(Kn.I7 r0) w hS) (fun v6 B hv=>?_)
  obtain⟨y7,rfl,y8,rfl⟩:=hv
  refine Bu J ⟨?_,?_⟩
  · exact(Po J (AF J) J J (Po J (AI J CO .m2 BR.l0 J J) J J (Po J (Al KF J) J J (Pk (Pk As)))))
  refine Aj 6 J (by kernel_rfl) ?_
  refine CW C7 J Tryz.underlying52 Ed SJ J Yf (by decide) (by decide) J J (fun w hS=>Src.D4 Tryz.underlying52 ((Kn.own .m1) w hS)) (by(try dsimp only);omega) (fun _=> .h) (fun h10 h10l h10z=>?_)
  refine Bu J ⟨?_,?_⟩
  · exact(Po J (AF J) J J (Pk (Pk (Pk (Pk As)))))
  refine Pf 7 J (Au J Tryz.underlying52 J) ?_
  refine A2 (by kernel_rfl) ?_
  refine AB (.t3 45 46 47) ?_
  refine AA (Ag ?_)
  refine Bw (.t3 47 45 46) ?_
  refine Ck (fun(k:Int)=>0≤k∧k≤((qs ++ [l.now]).length:Int)∧Bh.Bk l qs=((qs ++ [l.now]).drop k.toNat).all Bh.GX) (fun(k:Int)=>(((qs ++ [l.now]).length:Int) - k).toNat) (fun(k:Int)=> [(47, .int .i64 k)]) (fun(k:Int)=> []) (0) ?_ J J (fun k hI1=>?_)
  · exact⟨by omega,by omega,by rw [Bh.Bk,show Bh.Ju l=false from c1];rfl⟩
  obtain⟨hI11,hI12,hI13⟩:=hI1
  refine Gs (Gt (BA J J) (AR (AA (Aq ?_))))
  refine Gc (fun c6=>?_) (fun c6=>?_)
  ·
   have c6p:=kz c6
   have hk:k < ((qs ++ [l.now]).length:Int):=by simp only [List.length_append,List.length_cons,List.length_nil] at *;omega
   have hk7:((qs ++ [l.now]).length:Int)≤7:=by simp only [List.length_append,List.length_cons,List.length_nil] at *;omega
   refine Aa ?_
   refine AB (.t3 45 46 47) ?_
   refine AA (Aq (Ag (Gs ?_)))
   refine Gt (Bz JO (by decide) (Kn.own .m0) J J (by omega) (by simp only [List.length_append,List.length_cons,List.length_nil] at *;omega)) ?_
   refine Gt (DY J CO (Kn.own .m0) (by omega)) ?_
   refine Ga J (Gn (.t4 4 45 46 47) (CL (Gm J (Gt (BN J Tryz.underlying9 J) (Gt (Cs J J) (Gn (.t5 4 45 46 47 53) ?_))))))
   refine Gc (fun c7=>?_) (fun c7=>?_)
   ·
    refine Gs (Ga J (Gn (.t1 2) (Ac (AD (AS (AD (AD ?_)))))))
    refine AS (AD ?_)
    refine AY J (.tmp J .n) ?_
    intro w1 hS;refine⟨congrArg Value.bool ?_,hS.Ao⟩;rw [hI13,Bh.FX (d:= []) hI11 hk,Bh.GX,c7];rfl
   have c7p:=kz c7
   refine Aa ?_
   refine AB (.t4 4 45 46 47) ?_
   refine AA (Gs (Gm J (Gt (BN J Tryz.underlying9 J) (Gm J (Gn (.t6 4 45 46 47 55 56) (Ag ?_))))))
   refine Bw (.t6 56 4 45 46 47 55) ?_
   refine Ck (fun(i:Int)=>0≤i∧i≤(((qs ++ [l.now]).getD k.toNat []).length:Int)∧Bh.GX ((qs ++ [l.now]).getD k.toNat [])=(((qs ++ [l.now]).getD k.toNat []).drop i.toNat).all Bh.FP) (fun(i:Int)=>((((qs ++ [l.now]).getD k.toNat []).length:Int) - i).toNat) (fun(i:Int)=> [(56, .int .i64 i)]) (fun(i:Int)=> []) (0) ?_ J J (fun i hI2=>?_)
   · exact⟨by omega,by omega,by rw [Bh.GX,c7];rfl⟩
   obtain⟨hI21,hI22,hI23⟩:=hI2
   refine Gs (Gt (BA J J) (AR (AA (Aq ?_))))
   refine Gc (fun c8=>?_) (fun c8=>?_)
   ·
    have c8p:=kz c8
    refine Aa ?_
    refine AB (.t6 4 45 46 47 55 56) ?_
    refine AA (Aq (Ag (Gs (Gm J (Ga J (Gn (.t7 4 5 45 46 47 55 56) (Gs ?_)))))))
    refine Gm J (Gm J ?_)
    refine Gt (Bt Tryz.underlying9 J J (by omega) (by omega)) ?_
    refine BC J fD (.c J .n) (fun w hS=>HX _ w) ?_
    refine Gt (BZ J) (Gn (.t7 4 45 46 47 55 56 63) ?_)
    refine Gc (fun c9=>?_) (fun c9=>?_)
    ·
     have c9p:=kz c9
     refine Gs (Ga J (Gn (.t1 2) (Ac (AS (AD (AD (AS ?_)))))))
     refine AS (AD (AD (AS (AD ?_))))
     refine AY J (.tmp J .n) ?_
     intro w1 hS;refine⟨congrArg Value.bool ?_,hS.Ao⟩;rw [hI13,Bh.FX (d:= []) hI11 hk,hI23,Bh.FX (d:=0) hI21 (by omega),show Bh.FP _=false from by simpa using c9];rfl
    have c9p:=kz c9
    refine Aa ?_
    refine AB (.t6 4 45 46 47 55 56) ?_
    refine AV (AA (AJ ?_))
    refine Gt (Ay J J (IntWalk.i64_in _ (by omega))) ?_
    refine Gm J ?_
    refine AR (AB (.t6 4 45 46 47 55 56) ?_)
    refine CC (i+1) ?_ ?_ (.t6 56 4 45 46 47 55) (.refl _)
    · exact⟨by omega,by omega,by rw [hI23,Bh.FX (d:=0) hI21 (by omega),show Bh.FP _=true from by simpa using c9];rfl⟩
    · omega
   have c8p:=kz c8
   refine Bg (AW (AW (Ah ?_)))
   refine AB (.t3 45 46 47) ?_
   refine AV (AA (AJ ?_))
   refine Gt (Ay J J (IntWalk.i64_in _ (by omega))) ?_
   refine Gm J ?_
   refine AR (AB (.t3 45 46 47) ?_)
   refine CC (k+1) ?_ ?_ (.t3 47 45 46) (.refl _)
   · exact⟨by omega,by omega,by rw [hI13,Bh.FX (d:= []) hI11 hk,hI23,show i.toNat=((qs ++ [l.now]).getD k.toNat []).length from by omega,List.drop_length];rfl⟩
   · omega
  have c6p:=kz c6
  have hk:¬ k < ((qs ++ [l.now]).length:Int):=by simp only [List.length_append,List.length_cons,List.length_nil] at *;omega
  refine Bg (AW (AW (Ah ?_)))
  refine AB (.nil _) ?_
  refine AA (Gs (Ga J (AR (AA (Ac ?_)))))
  refine AY J (.tmp J .n) ?_
  intro w1 hS;refine⟨congrArg Value.bool ?_,hS.Ao⟩;rw [hI13,show k.toNat=(qs ++ [l.now]).length from by omega,List.drop_length];rfl
theorem QD {t0:Nat}(l:BR)(qs:List Ad)(u:Ad)(hu:u.length≤9000000000000000000):FO Tryz.prog 63 #[.agg l.enc.toArray,BW u] [] (fun w=>Rd w l.queue t0 1 (qs.flatMap A6)) (fun v B=>(Bh.Bk l qs=false∧v = .tuple #[.agg l.enc.toArray, .int .i64 0, .int .i64 2]∧B = [])∨(Bh.Bk l qs=true∧∃ h':Hd,v = .tuple #[.agg (BR.enc ⟨(Bh.feed (Bh.start l qs) u).now,(Bh.feed (Bh.start l qs) u).long,(Bh.feed (Bh.start l qs) u).ret,h'⟩).toArray, .int .i64 (Bh.feed (Bh.start l qs) u).lost, .int .i64 0]∧h'.len=(Bh.feed (Bh.start l qs) u).queue.length∧B = [Ab.own h' 9 1 ((Bh.feed (Bh.start l qs) u).queue.flatMap A6)])):=by
 intro w hS0 hH
 have r0:=hH
 have hl0:=r0.Lz C7 (by decide)
 refine Ap _ _ Tryz.func63 J J J (hS0) ?_
 refine Gs ?_
 refine CB J J J (fun b1=>?_)
 refine BJ J fR J (fun b2=>?_)
 refine Ga J (Ga J (Gn (.t3 1 2 4) (CL (Gt (AZ J Kq .m1 (AU.id BR.fl.len BR.fl.one) J) ?_))))
 refine BC J iu (.c J .n) (fun w hS=>O4 _ _ w ((Kn.I7 r0) w hS)) ?_
 refine Gt (BZ J) (Gn (.t4 1 2 4 14) ?_)
 refine Gc (fun c1=>?_) (fun c1=>?_)
 ·
  refine Gs (Gt (AZ J Kq .m1 (AU.id BR.fl.len BR.fl.one) J) ?_)
  refine AT (AL (AU.id BR.fl.len BR.fl.one) J J J Pc J .h) ?_
  refine Ga J (Ga J (Gn (.t3 4 5 6) (Ac (AD ?_))))
  refine AY J (.cell J .m0 (.inl ⟨(by rw [BR.fl.len];exact Kq),J⟩) (.tmp J (.tmp J .n))) ?_
  intro w1 hS
  have hS:=(hS.perm (Ax.perm .n)).A5
  exact⟨_, .inl ⟨by simpa using c1,rfl,rfl⟩,hS⟩
 have c1p:=kz c1
 have hgd:Bh.Bk l qs=true:=by simpa using c1
 have hh:=Bh.YD hgd
 have hq6:qs.length≤17592186044416:=by omega
 refine Aa ?_
 refine AB (.t3 1 2 4) ?_
 refine AA (Gs (Gt (Al Gh J) (Gt (AI J EU .m1 BR.l3 J J) ?_)))
 refine BL J X1 (.c J .n) .n (B6 _ _ (by first | assumption | omega)) (fun w hS=>(Kn.I7 r0) w hS) (fun v1 B hv=>?_)
 obtain⟨y2,rfl,y3,rfl⟩:=hv
 refine Gt (Al Gh J) ?_
 refine AT (AL BR.l3 J J J MA J (.t (.t .h))) ?_
 refine Gn (.t3 1 2 4) (Gs (Ga J (AR (AA (Gs (Gt (Al KF J) (Gt (AI J CO .m2 BR.l0 J J) ?_)))))))
 refine O7 J Tryz.underlying9 Tryz.underlying105 Tryz.underlying5 J (fun h5 h5l=>?_)
 refine Ga J (Gn (.t5 1 2 4 7 8) (CL (Gm J (Gt (BN J Tryz.underlying9 J) (Gm J (Gn (.t7 1 2 4 7 8 24 25) (Ag ?_)))))))
 refine Bw (.t7 7 8 25 1 2 4 24) ?_
 refine Be (.t (.t (.t .h))) ?_
 refine Be (.t (.t .h)) ?_
 refine Be (.t (.t .h)) ?_
 refine UU (fun(k:Int) (now:Ad) (long:Bool) (ret:Bool) (queue:List Ad) (lost:Int) (h:Hd) (g:Hd)=>Bh.I (Bh.start l qs) u k ⟨now,long,ret,queue,lost⟩∧h.len=now.length∧g.len=queue.length) (fun(k:Int) (now:Ad) (long:Bool) (ret:Bool) (queue:List Ad) (lost:Int) (h:Hd) (g:Hd)=>((u.length:Int) - k).toNat) (fun(k:Int) (now:Ad) (long:Bool) (ret:Bool) (queue:List Ad) (lost:Int) (h:Hd) (g:Hd)=> [(7, .int .i64 lost),(8,h.val),(25, .int .i64 k)]) (fun(k:Int) (now:Ad) (long:Bool) (ret:Bool) (queue:List Ad) (lost:Int) (h:Hd) (g:Hd)=> [Ab.own h 5 1 (now.flatMap Di),Ab.own g 9 1 (queue.flatMap A6),Ab.box b1 75 (BR.enc ⟨l.now,long,ret,g⟩)]) (0) (l.now) (l.long) (l.ret) (qs) (0) (_) (_) ?_ J J (fun k now long ret queue lost h g hI1=>?_)
 · exact⟨Bh.I.start hh.1 (show qs.length≤6 by omega) rfl,by assumption,by assumption⟩
 obtain⟨hI11,hl,hg⟩:=hI1;have hk0:=hI11.k0;have hk1:=hI11.k1;have hn:now.length≤60:=hI11.now;have hq:queue.length≤6:=hI11.queue;have hlo:0≤lost∧lost≤k:=hI11.lost
 refine Gs (Gt (BA J J) (AR (AA (Aq ?_))))
 refine Gc (fun c2=>?_) (fun c2=>?_)
 ·
  have c2p:=kz c2
  refine Aa ?_
  refine AB (.t7 1 2 4 7 8 24 25) ?_
  refine AA (Aq (Ag (Gs (Gm J (Ga J (Gn (.t8 1 2 4 7 8 9 24 25) (Gs ?_)))))))
  refine Gm J (Gm J ?_)
  refine Gt (Bt Tryz.underlying9 J J (by omega) (by omega)) ?_
  refine Ga J (Gn (.t8 1 2 4 7 8 10 24 25) (Gs (Gt (Al Px J) (Gt (AI J D3 .m2 BR.l2 J J) (Ga J (Gn (.t9 1 2 4 7 8 10 11 24 25) (Gs ?_)))))))
  refine Gt (Al Px J) ?_
  refine AT (AL BR.l2 J J J LG J (.t (.t .h))) ?_
  refine Gn (.t9 1 2 4 7 8 10 11 24 25) (Ag (Gs (Gm J (Gm J (Bp 40 J J (fun q=>AF J) (Bp 40 J J (fun q=>Ai (Bo J q) J) (Bp 40 J J (fun q=>AF (Bo J q)) ?_)))))))
  refine DF (t:=43) J J J (fun qc q=>AF J) ?_
  refine DF (t:=43) J J J (fun qc q=>Ai (Bo J (by rw [qc,q];rfl)) J) ?_
  refine Bp 40 J J (fun q=>Ba (Bo J q) J (fun h=>by rw [q,h];rfl)) ?_
  refine Gt (BQ J J (fun h=>h)) (Ga J (Gn (.t9 1 2 4 7 8 10 24 25 38) ?_))
  refine Gc (fun c3=>?_) (fun c3=>?_)
  ·
   have c3p:=kz c3
   refine Aa ?_
   refine AB (.t7 1 2 4 7 8 24 25) ?_
   refine AV (AV (AA (AJ ?_)))
   refine Gt (Ay J J (IntWalk.i64_in _ (by omega))) ?_
   refine Gm J ?_
   refine AR (AB (.t7 1 2 4 7 8 24 25) ?_)
   refine Ce (k+1) _ _ _ _ _ _ _ ?_ ?_ (.t7 7 8 25 1 2 4 24) (.refl _)
   · exact⟨hI11.next (by omega) (by simp only [Bh.step,hl,c1,c2,c3,↓reduceIte,Bool.false_eq_true]),(by(try dsimp only at *)<;>(try simp only [List.length_append,List.length_take,List.length_cons,List.length_nil])<;>omega),(by(try dsimp only at *)<;>(try simp only [List.length_append,List.length_cons,List.length_nil])<;>omega)⟩
   · omega
  have c3p:=kz c3
  refine Gs (Gm J (Gt (Ai J J) (Gm J (Bj 51 J J (fun q=>AF J) (Bj 51 J J (fun q=>Ai (cF J q) J) ?_)))))
  refine Gt (Ba J J (fun h=>by rw [h];rfl)) ?_
  refine Ga J (Gn (.t9 1 2 4 7 8 10 24 25 48) ?_)
  refine Gc (fun c4=>?_) (fun c4=>?_)
  ·
   have c4p:=kz c4
   refine CL (Gt (Al Gh J) (Gt (AI J EU .m2 BR.l3 J J) (Gt (Au J Tryz.underlying52 J) (Gt (BA J J) (Gn (.t9 1 2 4 7 8 10 24 25 58) ?_)))))
   refine Gc (fun c5=>?_) (fun c5=>?_)
   ·
    have c5p:=kz c5
    rw [hg] at c5
    refine AJ (Gt (Al Gh J) (Gt (AI J EU .m2 BR.l3 J J) (Gm J (Gt (Kv Tryz.underlying105 Tryz.underlying9 Tryz.underlying5 J (Kn.own .m0)) ?_))))
    refine Fe A6 C7 J Tryz.underlying52 Ed SJ J (by decide) (by decide) J J (fun b3=>?_)
    refine CW C7 J Tryz.underlying52 Ed SJ J Yf (by decide) (by decide) J J (fun w hS=>Src.D4 Tryz.underlying52 ((Kn.own .m0) w hS)) (by(try dsimp only);omega) (fun _=>(.t (.t .h))) (fun h6 h6l h6z=>?_)
    refine Gt (Al Gh J) ?_
    refine AT (AL BR.l3 J J J MA J (.t (.t (.t .h)))) ?_
    refine Gn (.t7 1 2 4 7 10 24 25) (AJ (Gm J (Gt (Ai J J) (Ga J (Gt (Al Pt J) ?_)))))
    refine AT (AL BR.l1 J J J LG J (.t (.t (.t .h)))) ?_
    refine Gt (Al Px J) ?_
    refine AT (AL BR.l2 J J J LG J (.t (.t (.t .h)))) ?_
    refine AR (AB (.t7 1 2 4 7 8 24 25) ?_)
    refine AV (AV (AA (AJ ?_)))
    refine Gt (Ay J J (IntWalk.i64_in _ (by omega))) ?_
    refine Gm J ?_
    refine AR (AB (.t7 1 2 4 7 8 24 25) ?_)
    refine SB Di 5 1 ?_
    refine CK (.c .h (.c (.t (.t .h)) (.c (.t (.t .h)) (.c (.t (.t .h)) .n)))) ?_
    refine Cl ?_
    refine Ce (k+1) _ _ _ _ _ _ _ ?_ ?_ (.t7 7 8 25 1 2 4 24) (.refl _)
    · exact⟨hI11.next (by omega) (by simp only [Bh.step,hl,c1,c2,c3,c4,c5,↓reduceIte,Bool.false_eq_true]),(by(try dsimp only at *)<;>(try simp only [List.length_append,List.length_take,List.length_cons,List.length_nil])<;>omega),(by(try dsimp only at *)<;>(try simp only [List.length_append,List.length_cons,List.length_nil])<;>omega)⟩
    · omega
   have c5p:=kz c5
   rw [hg] at c5
   refine AJ (Gm J ?_)
   refine Gt (Ay J J (IntWalk.i64_in _ (by omega))) ?_
   refine Ga J (Gn (.t7 1 2 4 7 10 24 25) (AJ (Gm J (Gt (Ai J J) (Ga J (Gt (Al Pt J) ?_))))))
   refine AT (AL BR.l1 J J J LG J (.t (.t .h))) ?_
   refine Gt (Al Px J) ?_
   refine AT (AL BR.l2 J J J LG J (.t (.t .h))) ?_
   refine AR (AB (.t7 1 2 4 7 8 24 25) ?_)
   refine AV (AV (AA (AJ ?_)))
   refine Gt (Ay J J (IntWalk.i64_in _ (by omega))) ?_
   refine Gm J ?_
   refine AR (AB (.t7 1 2 4 7 8 24 25) ?_)
   refine SB Di 5 1 ?_
   refine CK (.c .h (.c (.t .h) (.c (.t .h) (.c (.t .h) .n)))) ?_
   refine Cl ?_
   refine Ce (k+1) _ _ _ _ _ _ _ ?_ ?_ (.t7 7 8 25 1 2 4 24) (.refl _)
   · exact⟨hI11.next (by omega) (by simp only [Bh.step,hl,c1,c2,c3,c4,c5,↓reduceIte,Bool.false_eq_true]),(by(try dsimp only at *)<;>(try simp only [List.length_append,List.length_take,List.length_cons,List.length_nil])<;>omega),(by(try dsimp only at *)<;>(try simp only [List.length_append,List.length_cons,List.length_nil])<;>omega)⟩
   · omega
  have c4p:=kz c4
  refine Gs (Gm J (Gt (Ai J J) (Gm J (Bj 75 J J (fun q=>AF J) (Bj 75 J J (fun q=>Ai (cF J q) J) ?_)))))
  refine Gt (Ba J J (fun h=>by rw [h];rfl)) ?_
  refine Ga J (Gn (.t9 1 2 4 7 8 10 24 25 72) ?_)
  refine Gc (fun c6=>?_) (fun c6=>?_)
  ·
   have c6p:=kz c6
   refine Gs (Gm J (Gt (Au J Tryz.underlying105 J) (Gt (Cs J J) (Gn (.t8 1 2 4 7 8 24 25 81) ?_))))
   refine Gc (fun c7=>?_) (fun c7=>?_)
   ·
    have c7p:=kz c7
    rw [hl] at c7
    refine AJ (Gm J (Gm J (Gt (Au J Tryz.underlying105 J) ?_)))
    refine Gt (FT J J (IntWalk.i64_in _ (by omega))) ?_
    refine LA Ye J Tryz.underlying105 XG J J (by omega) (by omega) (fun _=> .h) ?_
    refine Ga J ?_
    refine AR (AB (.t7 1 2 4 7 8 24 25) ?_)
    refine AV (AV (AA (AJ ?_)))
    refine Gt (Ay J J (IntWalk.i64_in _ (by omega))) ?_
    refine Gm J ?_
    refine AR (AB (.t7 1 2 4 7 8 24 25) ?_)
    refine Ce (k+1) _ _ _ _ _ _ _ ?_ ?_ (.t7 7 8 25 1 2 4 24) (.refl _)
    · exact⟨hI11.next (by omega) (by simp only [Bh.step,hl,c1,c2,c3,c4,c6,c7,↓reduceIte,Bool.false_eq_true]),(by(try dsimp only at *)<;>(try simp only [List.length_append,List.length_take,List.length_cons,List.length_nil])<;>omega),(by(try dsimp only at *)<;>(try simp only [List.length_append,List.length_cons,List.length_nil])<;>omega)⟩
    · omega
   have c7p:=kz c7
   rw [hl] at c7
   refine Aa ?_
   refine AB (.t7 1 2 4 7 8 24 25) ?_
   refine AV (AV (AA (AJ ?_)))
   refine Gt (Ay J J (IntWalk.i64_in _ (by omega))) ?_
   refine Gm J ?_
   refine AR (AB (.t7 1 2 4 7 8 24 25) ?_)
   refine Ce (k+1) _ _ _ _ _ _ _ ?_ ?_ (.t7 7 8 25 1 2 4 24) (.refl _)
   · exact⟨hI11.next (by omega) (by simp only [Bh.step,hl,c1,c2,c3,c4,c6,c7,↓reduceIte,Bool.false_eq_true]),(by(try dsimp only at *)<;>(try simp only [List.length_append,List.length_take,List.length_cons,List.length_nil])<;>omega),(by(try dsimp only at *)<;>(try simp only [List.length_append,List.length_cons,List.length_nil])<;>omega)⟩
   · omega
  have c6p:=kz c6
  refine Gs (Gm J ?_)
  refine BC J fD (.c J .n) (fun w hS=>HX _ w) ?_
  refine Gt (BZ J) (Ga J (Gn (.t9 1 2 4 7 8 10 24 25 87) ?_))
  refine Gc (fun c8=>?_) (fun c8=>?_)
  ·
   have c8p:=kz c8
   refine Aa ?_
   refine AB (.t7 1 2 4 7 8 24 25) ?_
   refine AV (AV (AA (AJ ?_)))
   refine Gt (Ay J J (IntWalk.i64_in _ (by omega))) ?_
   refine Gm J ?_
   refine AR (AB (.t7 1 2 4 7 8 24 25) ?_)
   refine Ce (k+1) _ _ _ _ _ _ _ ?_ ?_ (.t7 7 8 25 1 2 4 24) (.refl _)
   · exact⟨hI11.next (by omega) (by simp only [Bh.step,hl,c1,c2,c3,c4,c6,c8,↓reduceIte,Bool.false_eq_true]),(by(try dsimp only at *)<;>(try simp only [List.length_append,List.length_take,List.length_cons,List.length_nil])<;>omega),(by(try dsimp only at *)<;>(try simp only [List.length_append,List.length_cons,List.length_nil])<;>omega)⟩
   · omega
  have c8p:=kz c8
  refine Gs (Gm J (Gt (Au J Tryz.underlying105 J) (Gt (CZ J J) (Ga J (Gn (.t9 1 2 4 7 8 10 24 25 91) ?_)))))
  refine Gc (fun c9=>?_) (fun c9=>?_)
  ·
   have c9p:=kz c9
   rw [hl] at c9
   refine AJ (Gt (Al Pt J) ?_)
   refine AT (AL BR.l1 J J J LG J (.t (.t .h))) ?_
   refine AR (AB (.t7 1 2 4 7 8 24 25) ?_)
   refine AV (AV (AA (AJ ?_)))
   refine Gt (Ay J J (IntWalk.i64_in _ (by omega))) ?_
   refine Gm J ?_
   refine AR (AB (.t7 1 2 4 7 8 24 25) ?_)
   refine Ce (k+1) _ _ _ _ _ _ _ ?_ ?_ (.t7 7 8 25 1 2 4 24) (.refl _)
   · exact⟨hI11.next (by omega) (by simp only [Bh.step,hl,c1,c2,c3,c4,c6,c8,c9,↓reduceIte,Bool.false_eq_true]),(by(try dsimp only at *)<;>(try simp only [List.length_append,List.length_take,List.length_cons,List.length_nil])<;>omega),(by(try dsimp only at *)<;>(try simp only [List.length_append,List.length_cons,List.length_nil])<;>omega)⟩
   · omega
  have c9p:=kz c9
  rw [hl] at c9
  refine AJ (Gm J (Gm J ?_))
  refine Fe Di Ye J Tryz.underlying105 XG dm J (by decide) (by decide) J J (fun b4=>?_)
  refine CW Ye J Tryz.underlying105 XG dm J iv (by decide) (by decide) J J (fun w hS=>Src.D4 Tryz.underlying105 ((Kn.own .m0) w hS)) (by(try dsimp only);omega) (fun _=>(.t .h)) (fun h9 h9l h9z=>?_)
  refine Ga J ?_
  refine AR (AB (.t7 1 2 4 7 8 24 25) ?_)
  refine AV (AV (AA (AJ ?_)))
  refine Gt (Ay J J (IntWalk.i64_in _ (by omega))) ?_
  refine Gm J ?_
  refine AR (AB (.t7 1 2 4 7 8 24 25) ?_)
  refine Ce (k+1) _ _ _ _ _ _ _ ?_ ?_ (.t7 7 8 25 1 2 4 24) (.cons _ (.refl _))
  · exact⟨hI11.next (by omega) (by simp only [Bh.step,hl,c1,c2,c3,c4,c6,c8,c9,↓reduceIte,Bool.false_eq_true]),(by(try dsimp only at *)<;>(try simp only [List.length_append,List.length_take,List.length_cons,List.length_nil])<;>omega),(by(try dsimp only at *)<;>(try simp only [List.length_append,List.length_cons,List.length_nil])<;>omega)⟩
  · omega
 have c2p:=kz c2
 refine Bg (AW (AW (Ah ?_)))
 refine AB (.t4 2 4 7 8) ?_
 refine AA (Gs (Gm J (Gt (Kv Tryz.underlying105 Tryz.underlying9 Tryz.underlying5 J (Kn.own .m0)) (Gt (Al KF J) ?_))))
 refine AT (AL BR.l0 J J J Ed J (.t (.t .h))) ?_
 refine Gn (.t3 2 4 7) (Gs (Gt (AZ J Kq .m2 (AU.id BR.fl.len BR.fl.one) J) (Gm J ?_)))
 refine AT (AL (AU.id BR.fl.len BR.fl.one) J J J Pc J (.t (.t (.t .h)))) ?_
 refine Ga J (Ga J (Gn (.t3 4 5 6) (Ac ?_)))
 refine AY J (.cell J .m3 (.inl ⟨(by rw [BR.fl.len];exact Kq),J⟩) (.tmp J (.tmp J .n))) ?_
 intro w1 hS
 have hS:=(hS.perm (Ax.perm (.c (.t .h) .n))).A5
 have e:=hI11.done (by omega)
 exact⟨_, .inr ⟨hgd,_,by rw [e];rfl,by rw [e];exact hg,by rw [e]⟩,hS⟩
theorem OA (p:Av)(n:Int)(w:World):Ev Tryz.prog 66 #[.agg p.enc.toArray, .int .i64 n] w fun v w'=>v = .tuple #[.agg (Av.enc ⟨p.wait,p.shown,p.B5,p.ring.drop (max 0 (min n (p.ring.length:Int))).toNat,p.cut⟩).toArray,BW (p.ring.take (max 0 (min n (p.ring.length:Int))).toNat)]∧CH w w':=by
 refine Ap [] [] Tryz.func66 J J J (St.start w []) ?_
 refine Gs ?_
 refine CB J J J (fun b1=>?_)
 refine BJ J Tv J (fun b2=>?_)
 refine Ga J (Gn (.t3 1 2 4) (Gs (Gm J (Gt (Al I2 J) (Gt (AI J CO .m1 Av.l3 J J) (Gt (BN J Tryz.underlying9 J) (Gt (Mt J J) ?_)))))))
 refine Gt (Mq J J) (Ga J (Gn (.t3 1 2 4) (Gs (Gt (Al I2 J) (Gt (AI J CO .m1 Av.l3 J J) (Gm J ?_))))))
 refine Gt (JG Tryz.underlying9 J J (by omega) (by omega)) ?_
 refine Ga J (Gn (.t4 1 2 4 6) (Gs (Gt (Al I2 J) (Gt (AI J CO .m1 Av.l3 J J) (Gm J ?_)))))
 refine Gt (HA Tryz.underlying9 J J (by omega) (by omega)) ?_
 refine Gt (Al I2 J) ?_
 refine AT (AL Av.l3 J J J Ed J (.t .h)) ?_
 refine Gn (.t3 2 4 6) (Gs (Gt (AZ J C4 .m1 (AU.id Av.fl.len Av.fl.one) J) (Gm J ?_)))
 refine AT (AL (AU.id Av.fl.len Av.fl.one) J J J Fb J .h) ?_
 refine Ga J (Gn (.t2 4 5) (Ac ?_))
 refine AY J (.cell J .m0 (.inl ⟨(by rw [Av.fl.len];exact C4),J⟩) (.tmp J .n)) ?_
 intro w1 hS;refine⟨?_,hS.Ao⟩;rfl
theorem Jb (b:Nat)(V:AN)(ls:Vector BD 4)(ev:List Ing.Event)(a:Br)(hL:AG.Live (A7 V ls ev))(hu:a.bytes.length≤140737488351232):FO Tryz.prog 38 #[.pointer (some ⟨b,0,none⟩), .agg a.enc.toArray] [Ab.box b 101 (AN.enc V),Ab.DP (CQ 9 (AN.Ar V) ls),Ab.own (AN.last V) 56 16 ((ev).flatMap Ing.Event.enc)] (fun w=>(GV 2 GJ w∧2 ∉ Ch [Ab.box b 101 (AN.enc V),Ab.DP (CQ 9 (AN.Ar V) ls),Ab.own (AN.last V) 56 16 ((ev).flatMap Ing.Event.enc)])∧(GV 0 AH.DU w∧0 ∉ Ch [Ab.box b 101 (AN.enc V),Ab.DP (CQ 9 (AN.Ar V) ls),Ab.own (AN.last V) 56 16 ((ev).flatMap Ing.Event.enc)])∧(HP 7 w∧7 ∉ Ch [Ab.box b 101 (AN.enc V),Ab.DP (CQ 9 (AN.Ar V) ls),Ab.own (AN.last V) 56 16 ((ev).flatMap Ing.Event.enc)])∧(HP 8 w∧8 ∉ Ch [Ab.box b 101 (AN.enc V),Ab.DP (CQ 9 (AN.Ar V) ls),Ab.own (AN.last V) 56 16 ((ev).flatMap Ing.Event.enc)])) (fun v B=>∃ V' ls' ev',v = .agg (Bl.enc (AG.act (A7 V ls ev) a).2).toArray∧A7 V' ls' ev'=(AG.act (A7 V ls ev) a).1∧B = [Ab.box b 101 (AN.enc V'),Ab.DP (CQ 9 (AN.Ar V') ls'),Ab.own (AN.last V') 56 16 ((ev').flatMap Ing.Event.enc)]):=by
 intro w hS0 hH
 obtain⟨⟨gl0,gm0⟩,⟨gl1,gm1⟩,⟨gl2,gm2⟩,⟨gl3,gm3⟩⟩:=hH
 obtain⟨n,m,hF⟩:=hL.fits
 have hc:0≤V.B8:=hL.B8
 refine Ap _ _ Tryz.func38 J J J (hS0) ?_
 refine Gs ?_
 refine CB J J J (fun b1=>?_)
 refine BJ J LN J (fun b2=>?_)
 refine Gn (.t3 0 3 4) (Aq (Ag (Gs (Gm J (Gt (Ft Tryz.underlying37 J) (Ga J (Gn (.t4 0 3 4 11) ?_)))))))
 refine D9 J J ?_
 refine Gs (Gm J (Gt (Bb J) (Gt (Al Sd J) (Gt (AI J A8 .m2 AN.l2 J J) (Gt (CZ J J) (Ga J (Gn (.t4 0 3 4 15) ?_)))))))
 refine Gc (fun c1=>?_) (fun c1=>?_)
 ·
  refine Gs (Gt (BF OB LN J (.cons Bl.l0 J J J .nil)) ?_)
  refine AT (AL (AU.id Bl.fl.len Bl.fl.one) J J J LK J .h) ?_
  refine Gn (.t1 4) (Ac (AS (AD ?_)))
  refine AY J (.cell J .m0 (.inl ⟨(by rw [Bl.fl.len];exact JV),J⟩) .n) ?_
  intro w1 hS
  have hS:=(hS.perm (Ax.perm (.c (.t (.t .h)) (.c (.t (.t .h)) (.c (.t (.t .h)) .n))))).A5
  have hq:(AG.act (A7 V ls ev) a)=((A7 V ls ev),⟨4,[]⟩):=BG c1
  refine⟨_,⟨V,ls,ev,?gv1,?ga1,J⟩,hS⟩
  case gv1=>rw [hq];rfl
  case ga1=>rw [hq]
 have c1p:=kz c1
 refine Aa ?_
 refine AB (.t3 0 3 4) ?_
 refine AV (AA (Gs (Gm J (Gt (Bb J) (Gt (Al Sd J) (Gt (AI J A8 .m2 AN.l2 J J) ?_))))))
 refine Gt (Ay J J (IntWalk.i64_in _ (by first | omega | exact hi.1 | exact hi.2 | exact hs.1 | exact hs.2))) ?_
 refine Gt (Bb J) (Gt (Al Sd J) ?_)
 refine AT (AL AN.l2 J J J DO J (.t (.t .h))) ?_
 refine Gn (.t3 0 3 4) (Gs (Gm J (Gt (Bb J) (Gt (Al Rp J) ?_))))
 refine AT (AL (Y:=⟨none,0,0⟩) AN.l3 J J J Tj J (.t (.t .h))) ?_
 refine Gn (.t3 0 3 4) (Aq (Aq ?_))
 refine E2 Ing.Event.enc 56 16 ?_
 refine Ep (.c (.t (.t (.t .h))) (.c (.t (.t (.t .h))) (.c .h .n))) ?_
 refine AJ (Gm J (AR (AA (Ag ?_))))
 refine Bw (.t4 32 0 3 4) ?_
 refine Be (.t (.t .h)) ?_
 refine Be (.t (.t .h)) ?_
 refine Be (.t (.t .h)) ?_
 refine IM (fun(i:Int) (V1:AN) (ls1:Vector BD 4) (ev1:List Ing.Event)=>0≤i∧i≤4∧(A7 V1 ls1 ev1)=AG.Es ({ (A7 V ls ev) with B8:=((A7 V ls ev)).B8+1,last:= [] }:AG) i.toNat) (fun(i:Int) (V1:AN) (ls1:Vector BD 4) (ev1:List Ing.Event)=>(4 - i).toNat) (fun(i:Int) (V1:AN) (ls1:Vector BD 4) (ev1:List Ing.Event)=> [(32, .int .i64 i)]) (fun(i:Int) (V1:AN) (ls1:Vector BD 4) (ev1:List Ing.Event)=> [Ab.box b 101 (AN.enc V1),Ab.DP (CQ 9 (AN.Ar V1) ls1),Ab.own (AN.last V1) 56 16 (ev1.flatMap Ing.Event.enc)]) (0) (_) (ls) ([]) ?_ J J (fun i V1 ls1 ev1 hI1=>?_)
 · exact⟨by omega,by omega,rfl⟩
 obtain⟨hI11,hI12,hI13⟩:=hI1
 refine Gs (Gt (BA J J) (AR (AA (Aq ?_))))
 refine Gc (fun c2=>?_) (fun c2=>?_)
 ·
  have c2p:=kz c2
  have hi:0≤i∧i < 4:=⟨by omega,by omega⟩
  refine Aa ?_
  refine AB (.t4 0 3 4 32) ?_
  refine AA (Aq (Ag (Gs (Gm J (Ga J (Gn (.t5 0 3 4 5 32) ?_))))))
  refine Fj (k:=i) hi.1 hi.2 (fun sv sl hsv hlv hln=>?_)
  refine AJ (Gm J (Gm J (Gt (Bb J) (Gt (Al Gz J) ?_))))
  refine Gt (AQ Qm J J (by first | omega | exact hi.1 | exact hi.2 | exact hs.1 | exact hs.2) (by first | omega | exact hi.1 | exact hi.2 | exact hs.1 | exact hs.2)) ?_
  refine Gt (Al So J) ?_
  refine AT (AL (Y:=⟨none,0,0⟩) ((AU.A3 V1 hi.1 hi.2).comp A4.l5) J J J MA J (.t (.t (.t .h)))) ?_
  refine AR (AB (.t4 0 3 4 32) ?_)
  refine AV (AA ?_)
  refine E2 A6 9 1 ?_
  refine Ep (.c (.t .h) (.c (.t .h) (.c .h (.c (.t .h) (.c (.t .h) .n))))) ?_
  refine Hp hi.1 hi.2 (by rfl) (by rfl) (by rfl) ?_
  refine AJ ?_
  refine Gt (Ay J J (IntWalk.i64_in _ (by first | omega | exact hi.1 | exact hi.2 | exact hs.1 | exact hs.2))) ?_
  refine Gm J ?_
  refine AR (AB (.t4 0 3 4 32) ?_)
  refine CK (.c .h (.c .h (.c (.t .h) (.c (.t .h) (.c (.t .h) (.c (.t .h) .n)))))) ?_
  refine Cl ?_
  refine C3 (i+1) _ _ _ ?_ ?_ (.t4 32 0 3 4) (.refl _)
  · exact⟨by omega,by omega,(E3 hi.1 hi.2 hsv hlv (f:=fun x=>{ x with told:= [] }) rfl).trans (by rw [hI13];exact(AG.Ry hI11).symm)⟩
  · omega
 have c2p:=kz c2
 obtain rfl:i=4:=by omega
 have hX:(A7 V1 ls1 ev1)=(AG.begun (A7 V ls ev)):=hI13
 have hF0:AG.Fit (A7 V1 ls1 ev1) 0 0:=by rw [hX];exact hF.begun
 refine Bg (AW (AW (Ah ?_)))
 refine AB (.t3 0 3 4) ?_
 refine AA (CL (Gt (Al M8 J) (Gt (AI J A8 .m4 Br.l0 J J) (Gt (Ai J J) (Gn (.t4 0 3 4 44) ?_)))))
 refine Gc (fun c3=>?_) (fun c3=>?_)
 ·
  have c3p:=kz c3
  refine Gs (Gm J (Gt (Al af J) (Gt (AI J A8 .m4 Br.l2 J J) ?_)))
  refine BL J ij (.c J (.c J .n)) (.c .h (.c .h (.c .h .n))) (Qe _ V1 ls1 ev1 a.n 0 0 hF0 (by omega) (by omega)) (fun w hS=>⟨gl0.pull gm0 hS (.c .h (.c .h (.c .h .n))),gl1.pull gm1 hS (.c .h (.c .h (.c .h .n))),gl2.pull gm2 hS (.c .h (.c .h (.c .h .n))),gl3.pull gm3 hS (.c .h (.c .h (.c .h .n)))⟩) (fun v2 B hv=>?_)
  obtain⟨y3,y4,y5,rfl,y6,rfl⟩:=hv
  refine Gn (.t1 4) (Gs (Gt (BF OB LN J .nil) ?_))
  refine AT (AL (AU.id Bl.fl.len Bl.fl.one) J J J LK J (.t (.t (.t .h)))) ?_
  refine Gn (.t1 4) (Ac (AD ?_))
  refine AY J (.cell J .m3 (.inl ⟨(by rw [Bl.fl.len];exact JV),J⟩) .n) ?_
  intro w1 hS
  have hS:=(hS.perm (Ax.perm (.c .h (.c .h (.c .h .n))))).A5
  have hq0:AG.DJ (A7 V1 ls1 ev1) a=_:=(BG c3)
  have hq:(AG.act (A7 V ls ev) a)=_:=(AG.GA c1 a).trans ((congrArg (fun X=>AG.DJ X a) hX.symm).trans hq0)
  refine⟨_,⟨y3,y4,y5,?gv2,?ga2,J⟩,hS⟩
  case gv2=>rw [hq];rfl
  case ga2=>rw [hq];dsimp only;exact y6
 have c3p:=kz c3
 refine Aa ?_
 refine AB (.t3 0 3 4) ?_
 refine AA (CL (Gt (Al M8 J) (Gt (AI J A8 .m4 Br.l0 J J) (Gt (BA J J) (Gm J (Bj 53 J J (fun q=>Al M8 J) (Bj 53 J J (fun q=>AI (cF J q) A8 .m4 Br.l0 J J) ?_)))))))
 refine Bj 53 J J (fun q=>Cs (cF J q) J) ?_
 refine Gt (Ba J J (fun h=>by rw [h];rfl)) ?_
 refine Gn (.t4 0 3 4 57) ?_
 refine Gc (fun c4=>?_) (fun c4=>?_)
 ·
  refine Gs (Gt (BF OB LN J (.cons Bl.l0 J J J .nil)) ?_)
  refine AT (AL (AU.id Bl.fl.len Bl.fl.one) J J J LK J (.t (.t (.t .h)))) ?_
  refine Gn (.t1 4) (Ac (AD ?_))
  refine AY J (.cell J .m3 (.inl ⟨(by rw [Bl.fl.len];exact JV),J⟩) .n) ?_
  intro w1 hS
  have hS:=(hS.perm (Ax.perm (.c .h (.c .h (.c .h .n))))).A5
  have hq0:AG.DJ (A7 V1 ls1 ev1) a=_:=((AX c3).trans (BG c4))
  have hq:(AG.act (A7 V ls ev) a)=_:=(AG.GA c1 a).trans ((congrArg (fun X=>AG.DJ X a) hX.symm).trans hq0)
  refine⟨_,⟨V1,ls1,ev1,?gv3,?ga3,J⟩,hS⟩
  case gv3=>rw [hq];rfl
  case ga3=>rw [hq]
 have c4p:=kz c4
 refine Aa ?_
 refine AB (.t3 0 3 4) ?_
 refine AA (CL (Gt (Al Sc J) (Gt (AI J A8 .m4 Br.l1 J J) (Gt (BA J J) (Gm J (Bj 62 J J (fun q=>Al Sc J) (Bj 62 J J (fun q=>AI (cF J q) A8 .m4 Br.l1 J J) ?_)))))))
 refine Bj 62 J J (fun q=>CZ (cF J q) J) ?_
 refine Gt (Ba J J (fun h=>by rw [h];rfl)) ?_
 refine Gn (.t4 0 3 4 66) ?_
 refine Gc (fun c5=>?_) (fun c5=>?_)
 ·
  refine Gs (Gt (BF OB LN J (.cons Bl.l0 J J J .nil)) ?_)
  refine AT (AL (AU.id Bl.fl.len Bl.fl.one) J J J LK J (.t (.t (.t .h)))) ?_
  refine Gn (.t1 4) (Ac (AD ?_))
  refine AY J (.cell J .m3 (.inl ⟨(by rw [Bl.fl.len];exact JV),J⟩) .n) ?_
  intro w1 hS
  have hS:=(hS.perm (Ax.perm (.c .h (.c .h (.c .h .n))))).A5
  have hq0:AG.DJ (A7 V1 ls1 ev1) a=_:=((AX c3).trans ((AX c4).trans (BG c5)))
  have hq:(AG.act (A7 V ls ev) a)=_:=(AG.GA c1 a).trans ((congrArg (fun X=>AG.DJ X a) hX.symm).trans hq0)
  refine⟨_,⟨V1,ls1,ev1,?gv4,?ga4,J⟩,hS⟩
  case gv4=>rw [hq];rfl
  case ga4=>rw [hq]
 have c5p:=kz c5
 have hs:0≤a.A3∧a.A3 < 4:=⟨by omega,by omega⟩
 refine Aa ?_
 refine AB (.t3 0 3 4) ?_
 refine AA (Aq ?_)
 refine BE (N:=7) [0,0,2,1,9,31,63] mix (by kernel_rfl) J ?_
 refine Pf 0 J (AF J) (Pf 1 J (Al Sc J) (Pf 2 J (AI J A8 .m4 Br.l1 J J) (Pf 3 J (Bb J) (Pf 4 J (Al Gz J) ?_))))
 refine Pf 5 J (AQ Qm J J (by first | omega | exact hi.1 | exact hi.2 | exact hs.1 | exact hs.2) (by first | omega | exact hi.1 | exact hi.2 | exact hs.1 | exact hs.2)) ?_
 refine Pf 6 J (A0 J) ?_
 refine A2 (by kernel_rfl) ?_
 refine AB (.t4 0 3 4 6) ?_
 refine AA (Aq (Aq ?_))
 refine BE (N:=9) [0,1,3,7,15,0,32,96,255] mix (by kernel_rfl) J ?_
 refine Pf 0 J (AF J) (Pf 1 J (Bb J) (Pf 2 J (Al Jx J) ?_))
 refine Pf 3 J (AI J A8 .m0 ((AN.l1.comp (AU.ar (n:=4) A4.fl (by first | omega | exact hi | exact hs))).comp A4.l0) J J) ?_
 refine Pf 4 J (Ai J J) (Pf 5 J (Al M8 J) (Pf 6 J (AI J A8 .m4 Br.l0 J J) (Pf 7 J (Ai J J) (Pf 8 J (KV Tryz.underlying4 J J) ?_))))
 refine A2 (by kernel_rfl) ?_
 refine AB (.t5 0 3 4 6 82) ?_
 refine AA ?_
 refine Gc (fun c6=>?_) (fun c6=>?_)
 ·
  refine Gs (Gt (BF OB LN J (.cons Bl.l0 J J J .nil)) ?_)
  refine AT (AL (AU.id Bl.fl.len Bl.fl.one) J J J LK J (.t (.t (.t .h)))) ?_
  refine Gn (.t1 4) (Ac (AD ?_))
  refine AY J (.cell J .m3 (.inl ⟨(by rw [Bl.fl.len];exact JV),J⟩) .n) ?_
  intro w1 hS
  have hS:=(hS.perm (Ax.perm (.c .h (.c .h (.c .h .n))))).A5
  have hq0:AG.DJ (A7 V1 ls1 ev1) a=_:=((AX c3).trans ((AX c4).trans ((AX c5).trans (BG (show(decide ((AG.at_ (A7 V1 ls1 ev1) a.A3).state=0) != decide (a.kind=1))=true by rw [HB V1 ls1 ev1 hs.1 hs.2];exact c6)))))
  have hq:(AG.act (A7 V ls ev) a)=_:=(AG.GA c1 a).trans ((congrArg (fun X=>AG.DJ X a) hX.symm).trans hq0)
  refine⟨_,⟨V1,ls1,ev1,?gv5,?ga5,J⟩,hS⟩
  case gv5=>rw [hq];rfl
  case ga5=>rw [hq]
 have c6p:=kz c6
 refine Aa ?_
 refine AB (.t4 0 3 4 6) ?_
 refine AA (CL (Gt (Al M8 J) (Gt (AI J A8 .m4 Br.l0 J J) (Gn (.t5 0 3 4 6 85) (Ag (Gs (Gt (Ai J J) ?_)))))))
 refine Ga J (Gn (.t6 0 3 4 6 85 86) ?_)
 refine Gc (fun c7=>?_) (fun c7=>?_)
 ·
  have c7p:=kz c7
  refine AJ (Gm J (Gm J ?_))
  refine BL J jh (.c J (.c J .n)) (.c .h (.c .h (.c .h .n))) (R5 _ V1 ls1 ev1 a.A3 0 0 hs hF0 (by omega) (by omega)) (fun w hS=>⟨gl0.pull gm0 hS (.c .h (.c .h (.c .h .n))),gl1.pull gm1 hS (.c .h (.c .h (.c .h .n))),gl2.pull gm2 hS (.c .h (.c .h (.c .h .n))),gl3.pull gm3 hS (.c .h (.c .h (.c .h .n)))⟩) (fun v7 B hv=>?_)
  obtain⟨y8,y9,y10,rfl,y11,rfl⟩:=hv
  refine AR (AB (.t1 4) ?_)
  refine AV (AA (Gs (Gt (BF OB LN J .nil) ?_)))
  refine AT (AL (AU.id Bl.fl.len Bl.fl.one) J J J LK J (.t (.t (.t .h)))) ?_
  refine Gn (.t1 4) (Ac ?_)
  refine AY J (.cell J .m3 (.inl ⟨(by rw [Bl.fl.len];exact JV),J⟩) .n) ?_
  intro w1 hS
  have hS:=(hS.perm (Ax.perm (.c .h (.c .h (.c .h .n))))).A5
  have hq0:AG.DJ (A7 V1 ls1 ev1) a=_:=((AX c3).trans ((AX c4).trans ((AX c5).trans ((AX (show(decide ((AG.at_ (A7 V1 ls1 ev1) a.A3).state=0) != decide (a.kind=1))=false by rw [HB V1 ls1 ev1 hs.1 hs.2];exact c6)).trans (BG c7)))))
  have hq:(AG.act (A7 V ls ev) a)=_:=(AG.GA c1 a).trans ((congrArg (fun X=>AG.DJ X a) hX.symm).trans hq0)
  refine⟨_,⟨y8,y9,y10,?gv6,?ga6,J⟩,hS⟩
  case gv6=>rw [hq];rfl
  case ga6=>rw [hq];dsimp only;exact y11
 have c7p:=kz c7
 refine Gs (Gt (Ai J J) (Ga J (Gn (.t6 0 3 4 6 85 91) ?_)))
 refine Gc (fun c8=>?_) (fun c8=>?_)
 ·
  have c8p:=kz c8
  refine Gs (Ga J (Ga J (Gn (.t4 0 3 4 6) (Aq ?_))))
  refine Fj (k:=a.A3) hs.1 hs.2 (fun sv sl hsv hlv hln=>?_)
  refine BE (N:=18) [0,0,2,6,14,0,32,126,254,510,510,510,510,1023,9215,25599,59391,126975] mix (by kernel_rfl) J ?_
  refine Pf 0 J (AF J) (Pf 1 J (AF J) (Pf 2 J (Bb J) (Pf 3 J (Al Lk J) (Pf 4 J (AZ J EI .m3 ((AU.A3 V1 hs.1 hs.2).comp A4.l2) J) (Pf 5 J (Al fC J) (Pf 6 J (AI J CO .m7 Br.l3 J J) ?_))))))
  refine BI 7 J J (by kernel_rfl) (LI (J4 (D0 eP (.c J (.c J .n)) (fun w hS=>Gy _ _ (by omega) w)))) ?_
  refine Pf 8 J (AF J) (Pf 9 J (AM J J) (Pf 10 J (AM J J) (Pf 11 J (AM J J) (Pf 12 J (AM J J) (Pf 13 J (Bb J) (Pf 14 J (Al Lk J) ?_))))))
  refine Aj 15 J (by kernel_rfl) ?_
  refine AT (AL ((AU.A3 V1 hs.1 hs.2).comp A4.l2) J J J KE J (.t (.t (.t .h)))) ?_
  refine BO J ⟨?_,?_⟩
  · exact(Pk (Pk (Po J (AM J J) J J (Po J (AM J J) J J (Po J (AM J J) J J (Pk (Pk (Pk (Pk (Pk (Pk (Pk (Pk (Pk (Pk As)))))))))))))))
  refine Pf 16 J (A0 J) (Pf 17 J (A0 J) ?_)
  refine A2 (by kernel_rfl) ?_
  refine AB (.t5 0 4 6 7 8) ?_
  refine AA (Gs (Gm J (Gm J (Gt (Bb J) (Gt (Al D2 J) (Gt (AZ J C4 .m3 ((AU.A3 V1 hs.1 hs.2).comp A4.l4) J) (Gm J ?_)))))))
  refine BC J Zr (.c J (.c J .n)) (fun w hS=>Eh _ _ (by have h:=AK.XK sv.DZ a.bytes;omega) w) ?_
  refine Gm J (Gt (AM J J) (Gt (AM J J) (Gt (Bb J) (Gt (Al D2 J) ?_))))
  refine AT (AL ((AU.A3 V1 hs.1 hs.2).comp A4.l4) J J J Fb J (.t (.t (.t .h)))) ?_
  refine Gn (.t4 0 4 6 7) (Gs (Ga J (Gn (.t4 0 4 6 7) (CL (Gm J (Gm J (Gt (Bb J) ?_)))))))
  refine Gt (Al Na J) (Gt (AZ J Kq .m3 ((AU.A3 V1 hs.1 hs.2).comp A4.l3) J) (Gm J ?_))
  refine BL J jN (.c J (.c J .n)) .n (QD _ _ _ (by have h:=Xz sv.DZ a.bytes;omega)) (fun w hS=>(Kn.own .m0) w hS) (fun v12 B hv=>?_)
  rcases hv with ⟨y13,rfl,rfl⟩ | ⟨y14,y15,rfl,y16,rfl⟩
  ·
   refine Gm J (Gt (AM J J) (Gt (AM J J) (Gt (AM J J) (Gt (Bb J) (Gt (Al Na J) ?_)))))
   refine AT (AL ((AU.A3 V1 hs.1 hs.2).comp A4.l3) J J J Pc J (.t (.t (.t .h)))) ?_
   refine Ga J (Gn (.t4 0 4 6 9) (Aq ?_))
   refine Ep (.c .h (.c .h (.c .h (.c .h (.c .h .n))))) ?_
   refine Hp hs.1 hs.2 (by rfl) (by rfl) (by rfl) ?_
   refine AJ (Gm J (Gt (Cs J J) (Gn (.t4 0 4 6 134) ?_)))
   refine Gc (fun c9=>?_) (fun c9=>?_)
   ·
    have c9p:=kz c9
    refine AJ (Gm J (Gm J ?_))
    refine Ak J VN (.c J (.c J (.c J .n))) (.c .h (.c .h (.c .h .n))) (EZ _ (AN.A3 V1 a.A3 (heard sv a.bytes)) (ls1.put a.A3 ⟨sl.queue,sl.wait,sl.told⟩) ev1 a.A3 _ hs (Nat.le_trans (HM (JJ hs.1 hs.2 (FZ (V:=V1) (ls:=ls1) (ev:=ev1) hs.1 hs.2 hsv hlv (ID (u:=a.bytes) hln.2.1 hln.1 y13)) hF0) a.A3 hs.1 hs.2) (by omega))) (fun v18 B hv=>?_)
    obtain⟨y19,y20,y21,rfl,y22,rfl⟩:=hv
    refine Gn (.t2 0 4) (AJ (Gm J ?_))
    refine BL J Ts (.c J .n) (.c .h (.c .h (.c .h .n))) (EB _ y19 y20 y21 1 0 (by rw [y22];exact(JJ hs.1 hs.2 (FZ (V:=V1) (ls:=ls1) (ev:=ev1) hs.1 hs.2 hsv hlv (ID (u:=a.bytes) hln.2.1 hln.1 y13)) hF0).tell hs.1 hs.2 (show AG.OF.length≤_ by decide)) (by omega) (by omega)) (fun w hS=>⟨gl0.pull gm0 hS (.c .h (.c .h (.c .h .n))),gl1.pull gm1 hS (.c .h (.c .h (.c .h .n))),gl2.pull gm2 hS (.c .h (.c .h (.c .h .n))),gl3.pull gm3 hS (.c .h (.c .h (.c .h .n)))⟩) (fun v23 B hv=>?_)
    obtain⟨y24,y25,y26,rfl,y27,rfl⟩:=hv
    refine AR (AB (.t1 4) ?_)
    refine AV (AA (Gs (Gt (BF OB LN J .nil) ?_)))
    refine AT (AL (AU.id Bl.fl.len Bl.fl.one) J J J LK J (.t (.t (.t .h)))) ?_
    refine Gn (.t1 4) (Ac ?_)
    refine AY J (.cell J .m3 (.inl ⟨(by rw [Bl.fl.len];exact JV),J⟩) .n) ?_
    intro w1 hS
    have hS:=(hS.perm (Ax.perm (.c .h (.c .h (.c .h .n))))).A5
    have hq0:AG.DJ (A7 V1 ls1 ev1) a=_:=((AX c3).trans ((AX c4).trans ((AX c5).trans ((AX (show(decide ((AG.at_ (A7 V1 ls1 ev1) a.A3).state=0) != decide (a.kind=1))=false by rw [HB V1 ls1 ev1 hs.1 hs.2];exact c6)).trans ((AX c7).trans (BG c8))))))
    have hq:(AG.act (A7 V ls ev) a)=_:=(AG.GA c1 a).trans ((congrArg (fun X=>AG.DJ X a) hX.symm).trans hq0)
    refine⟨_,⟨y24,y25,y26,?gv7,?ga7,J⟩,hS⟩
    case gv7=>rw [hq];rfl
    case ga7=>rw [hq];dsimp only;exact(Mi hs.1 hs.2 (FZ (V:=V1) (ls:=ls1) (ev:=ev1) hs.1 hs.2 hsv hlv (ID (u:=a.bytes) hln.2.1 hln.1 y13)) (.inl ⟨c9,y22⟩) y27)
   have c9p:=kz c9
   refine Aa ?_
   refine AB (.t2 0 4) ?_
   refine AA (AJ (Gm J ?_))
   refine BL J Ts (.c J .n) (.c .h (.c .h (.c .h .n))) (EB _ (AN.A3 V1 a.A3 (heard sv a.bytes)) (ls1.put a.A3 ⟨sl.queue,sl.wait,sl.told⟩) ev1 0 0 (JJ hs.1 hs.2 (FZ (V:=V1) (ls:=ls1) (ev:=ev1) hs.1 hs.2 hsv hlv (ID (u:=a.bytes) hln.2.1 hln.1 y13)) hF0) (by omega) (by omega)) (fun w hS=>⟨gl0.pull gm0 hS (.c .h (.c .h (.c .h .n))),gl1.pull gm1 hS (.c .h (.c .h (.c .h .n))),gl2.pull gm2 hS (.c .h (.c .h (.c .h .n))),gl3.pull gm3 hS (.c .h (.c .h (.c .h .n)))⟩) (fun v28 B hv=>?_)
   obtain⟨y29,y30,y31,rfl,y32,rfl⟩:=hv
   refine AR (AB (.t1 4) ?_)
   refine AV (AA (Gs (Gt (BF OB LN J .nil) ?_)))
   refine AT (AL (AU.id Bl.fl.len Bl.fl.one) J J J LK J (.t (.t (.t .h)))) ?_
   refine Gn (.t1 4) (Ac ?_)
   refine AY J (.cell J .m3 (.inl ⟨(by rw [Bl.fl.len];exact JV),J⟩) .n) ?_
   intro w1 hS
   have hS:=(hS.perm (Ax.perm (.c .h (.c .h (.c .h .n))))).A5
   have hq0:AG.DJ (A7 V1 ls1 ev1) a=_:=((AX c3).trans ((AX c4).trans ((AX c5).trans ((AX (show(decide ((AG.at_ (A7 V1 ls1 ev1) a.A3).state=0) != decide (a.kind=1))=false by rw [HB V1 ls1 ev1 hs.1 hs.2];exact c6)).trans ((AX c7).trans (BG c8))))))
   have hq:(AG.act (A7 V ls ev) a)=_:=(AG.GA c1 a).trans ((congrArg (fun X=>AG.DJ X a) hX.symm).trans hq0)
   refine⟨_,⟨y29,y30,y31,?gv8,?ga8,J⟩,hS⟩
   case gv8=>rw [hq];rfl
   case ga8=>rw [hq];dsimp only;exact(Mi hs.1 hs.2 (FZ (V:=V1) (ls:=ls1) (ev:=ev1) hs.1 hs.2 hsv hlv (ID (u:=a.bytes) hln.2.1 hln.1 y13)) (.inr ⟨c9,rfl⟩) y32)
  refine Gm J (Gt (AM J J) (Gt (AM J J) (Gt (AM J J) (Gt (Bb J) (Gt (Al Na J) ?_)))))
  refine AT (AL ((AU.A3 V1 hs.1 hs.2).comp A4.l3) J J J Pc J (.t (.t (.t (.t .h))))) ?_
  refine Ga J (Gn (.t4 0 4 6 9) (Aq ?_))
  refine Ep (.c .h (.c (.t .h) (.c (.t .h) (.c (.t .h) (.c (.t .h) .n))))) ?_
  refine Hp hs.1 hs.2 (by rfl) (by rfl) (by rfl) ?_
  refine AJ (Gm J (Gt (Cs J J) (Gn (.t4 0 4 6 134) ?_)))
  refine Gc (fun c10=>?_) (fun c10=>?_)
  ·
   have c10p:=kz c10
   refine AJ (Gm J (Gm J ?_))
   refine Ak J VN (.c J (.c J (.c J .n))) (.c .h (.c .h (.c (.t .h) .n))) (EZ _ (AN.A3 V1 a.A3 { heard sv a.bytes with ER:=⟨(Bh.feed (Bh.start sv.ER sl.queue) (sv.DZ.DA a.bytes).2.1).now,(Bh.feed (Bh.start sv.ER sl.queue) (sv.DZ.DA a.bytes).2.1).long,(Bh.feed (Bh.start sv.ER sl.queue) (sv.DZ.DA a.bytes).2.1).ret,y15⟩ }) (ls1.put a.A3 ⟨(Bh.feed (Bh.start sv.ER sl.queue) (sv.DZ.DA a.bytes).2.1).queue,sl.wait,sl.told⟩) ev1 a.A3 _ hs (Nat.le_trans (HM (JJ hs.1 hs.2 (FZ (V:=V1) (ls:=ls1) (ev:=ev1) hs.1 hs.2 hsv hlv (JD (u:=a.bytes) hln.2.1 hln.1 y14 y15)) hF0) a.A3 hs.1 hs.2) (by omega))) (fun v33 B hv=>?_)
   obtain⟨y34,y35,y36,rfl,y37,rfl⟩:=hv
   refine Gn (.t2 0 4) (AJ (Gm J ?_))
   refine BL J Ts (.c J .n) (.c .h (.c .h (.c .h .n))) (EB _ y34 y35 y36 1 0 (by rw [y37];exact(JJ hs.1 hs.2 (FZ (V:=V1) (ls:=ls1) (ev:=ev1) hs.1 hs.2 hsv hlv (JD (u:=a.bytes) hln.2.1 hln.1 y14 y15)) hF0).tell hs.1 hs.2 (show AG.OF.length≤_ by decide)) (by omega) (by omega)) (fun w hS=>⟨gl0.pull gm0 hS (.c .h (.c .h (.c .h .n))),gl1.pull gm1 hS (.c .h (.c .h (.c .h .n))),gl2.pull gm2 hS (.c .h (.c .h (.c .h .n))),gl3.pull gm3 hS (.c .h (.c .h (.c .h .n)))⟩) (fun v38 B hv=>?_)
   obtain⟨y39,y40,y41,rfl,y42,rfl⟩:=hv
   refine AR (AB (.t1 4) ?_)
   refine AV (AA (Gs (Gt (BF OB LN J .nil) ?_)))
   refine AT (AL (AU.id Bl.fl.len Bl.fl.one) J J J LK J (.t (.t (.t (.t .h))))) ?_
   refine Gn (.t1 4) (Ac ?_)
   refine AY J (.cell J .m4 (.inl ⟨(by rw [Bl.fl.len];exact JV),J⟩) .n) ?_
   intro w1 hS
   have hS:=(hS.perm (Ax.perm (.c .h (.c .h (.c .h .n))))).A5
   have hq0:AG.DJ (A7 V1 ls1 ev1) a=_:=((AX c3).trans ((AX c4).trans ((AX c5).trans ((AX (show(decide ((AG.at_ (A7 V1 ls1 ev1) a.A3).state=0) != decide (a.kind=1))=false by rw [HB V1 ls1 ev1 hs.1 hs.2];exact c6)).trans ((AX c7).trans (BG c8))))))
   have hq:(AG.act (A7 V ls ev) a)=_:=(AG.GA c1 a).trans ((congrArg (fun X=>AG.DJ X a) hX.symm).trans hq0)
   refine⟨_,⟨y39,y40,y41,?gv9,?ga9,J⟩,hS⟩
   case gv9=>rw [hq];rfl
   case ga9=>rw [hq];dsimp only;exact(Mi hs.1 hs.2 (FZ (V:=V1) (ls:=ls1) (ev:=ev1) hs.1 hs.2 hsv hlv (JD (u:=a.bytes) hln.2.1 hln.1 y14 y15)) (.inl ⟨c10,y37⟩) y42)
  have c10p:=kz c10
  refine Aa ?_
  refine AB (.t2 0 4) ?_
  refine AA (AJ (Gm J ?_))
  refine BL J Ts (.c J .n) (.c .h (.c .h (.c (.t .h) .n))) (EB _ (AN.A3 V1 a.A3 { heard sv a.bytes with ER:=⟨(Bh.feed (Bh.start sv.ER sl.queue) (sv.DZ.DA a.bytes).2.1).now,(Bh.feed (Bh.start sv.ER sl.queue) (sv.DZ.DA a.bytes).2.1).long,(Bh.feed (Bh.start sv.ER sl.queue) (sv.DZ.DA a.bytes).2.1).ret,y15⟩ }) (ls1.put a.A3 ⟨(Bh.feed (Bh.start sv.ER sl.queue) (sv.DZ.DA a.bytes).2.1).queue,sl.wait,sl.told⟩) ev1 0 0 (JJ hs.1 hs.2 (FZ (V:=V1) (ls:=ls1) (ev:=ev1) hs.1 hs.2 hsv hlv (JD (u:=a.bytes) hln.2.1 hln.1 y14 y15)) hF0) (by omega) (by omega)) (fun w hS=>⟨gl0.pull gm0 hS (.c .h (.c .h (.c (.t .h) .n))),gl1.pull gm1 hS (.c .h (.c .h (.c (.t .h) .n))),gl2.pull gm2 hS (.c .h (.c .h (.c (.t .h) .n))),gl3.pull gm3 hS (.c .h (.c .h (.c (.t .h) .n)))⟩) (fun v43 B hv=>?_)
  obtain⟨y44,y45,y46,rfl,y47,rfl⟩:=hv
  refine AR (AB (.t1 4) ?_)
  refine AV (AA (Gs (Gt (BF OB LN J .nil) ?_)))
  refine AT (AL (AU.id Bl.fl.len Bl.fl.one) J J J LK J (.t (.t (.t (.t .h))))) ?_
  refine Gn (.t1 4) (Ac ?_)
  refine AY J (.cell J .m4 (.inl ⟨(by rw [Bl.fl.len];exact JV),J⟩) .n) ?_
  intro w1 hS
  have hS:=(hS.perm (Ax.perm (.c .h (.c .h (.c .h .n))))).A5
  have hq0:AG.DJ (A7 V1 ls1 ev1) a=_:=((AX c3).trans ((AX c4).trans ((AX c5).trans ((AX (show(decide ((AG.at_ (A7 V1 ls1 ev1) a.A3).state=0) != decide (a.kind=1))=false by rw [HB V1 ls1 ev1 hs.1 hs.2];exact c6)).trans ((AX c7).trans (BG c8))))))
  have hq:(AG.act (A7 V ls ev) a)=_:=(AG.GA c1 a).trans ((congrArg (fun X=>AG.DJ X a) hX.symm).trans hq0)
  refine⟨_,⟨y44,y45,y46,?gv10,?ga10,J⟩,hS⟩
  case gv10=>rw [hq];rfl
  case ga10=>rw [hq];dsimp only;exact(Mi hs.1 hs.2 (FZ (V:=V1) (ls:=ls1) (ev:=ev1) hs.1 hs.2 hsv hlv (JD (u:=a.bytes) hln.2.1 hln.1 y14 y15)) (.inr ⟨c10,rfl⟩) y47)
 have c8p:=kz c8
 refine Gs (Gt (Ai J J) (Ga J (Gn (.t6 0 3 4 6 85 140) ?_)))
 refine Gc (fun c11=>?_) (fun c11=>?_)
 ·
  have c11p:=kz c11
  refine Gs (Ga J (Gn (.t4 0 3 4 6) (Aq ?_)))
  refine Fj (k:=a.A3) hs.1 hs.2 (fun sv sl hsv hlv hln=>?_)
  refine BE (N:=15) [0,0,2,6,14,0,32,126,254,510,510,1023,3071,7167,16383] mix (by kernel_rfl) J ?_
  refine Pf 0 J (AF J) (Pf 1 J (AF J) (Pf 2 J (Bb J) (Pf 3 J (Al D2 J) (Pf 4 J (AZ J C4 .m3 ((AU.A3 V1 hs.1 hs.2).comp A4.l4) J) (Pf 5 J (Al af J) (Pf 6 J (AI J A8 .m7 Br.l2 J J) ?_))))))
  refine BI 7 J J (by kernel_rfl) (LI (J4 (D0 jg (.c J (.c J .n)) (fun w hS=>OA _ _ w)))) ?_
  refine Pf 8 J (AF J) (Pf 9 J (AM J J) (Pf 10 J (AM J J) (Pf 11 J (Bb J) (Pf 12 J (Al D2 J) ?_))))
  refine Aj 13 J (by kernel_rfl) ?_
  refine AT (AL ((AU.A3 V1 hs.1 hs.2).comp A4.l4) J J J Fb J (.t (.t (.t .h)))) ?_
  refine BO J ⟨?_,?_⟩
  · exact(Pk (Pk (Po J (AM J J) J J (Pk (Pk (Pk (Pk (Pk (Pk (Pk (Pk (Pk (Pk As)))))))))))))
  refine Pf 14 J (A0 J) ?_
  refine A2 (by kernel_rfl) ?_
  refine AB (.t3 0 4 10) ?_
  refine AA (Aq ?_)
  refine Ep (.c .h (.c .h (.c .h (.c .h (.c .h .n))))) ?_
  refine Hp hs.1 hs.2 (by rfl) (by rfl) (by rfl) ?_
  refine AJ (Gm J ?_)
  refine BL J Ts (.c J .n) (.c .h (.c .h (.c .h .n))) (EB _ (AN.A3 V1 a.A3 { sv with out:=⟨sv.out.wait,sv.out.shown,sv.out.B5,sv.out.ring.drop (max 0 (min a.n (sv.out.ring.length:Int))).toNat,sv.out.cut⟩ }) (ls1.put a.A3 ⟨sl.queue,sl.wait,sl.told⟩) ev1 0 0 (by rw [(show A7 (AN.A3 V1 a.A3 { sv with out:=⟨sv.out.wait,sv.out.shown,sv.out.B5,sv.out.ring.drop (max 0 (min a.n (sv.out.ring.length:Int))).toNat,sv.out.cut⟩ }) (ls1.put a.A3 ⟨sl.queue,sl.wait,sl.told⟩) ev1=AG.set (A7 V1 ls1 ev1) a.A3 ((AG.at_ (A7 V1 ls1 ev1) a.A3).Fl a.n) from E3 hs.1 hs.2 hsv hlv (f:=fun x=>x.Fl a.n) rfl)];exact hF0.Fl hs.1 hs.2 a.n) (by omega) (by omega)) (fun w hS=>⟨gl0.pull gm0 hS (.c .h (.c .h (.c .h .n))),gl1.pull gm1 hS (.c .h (.c .h (.c .h .n))),gl2.pull gm2 hS (.c .h (.c .h (.c .h .n))),gl3.pull gm3 hS (.c .h (.c .h (.c .h .n)))⟩) (fun v48 B hv=>?_)
  obtain⟨y49,y50,y51,rfl,y52,rfl⟩:=hv
  refine Gn (.t2 4 10) (Gs (Gm J (Gt (BF OB LN J (.cons Bl.l1 J J J .nil)) ?_)))
  refine AT (AL (AU.id Bl.fl.len Bl.fl.one) J J J LK J (.t (.t (.t .h)))) ?_
  refine Gn (.t1 4) (Ac (AS (AD ?_)))
  refine AY J (.cell J .m3 (.inl ⟨(by rw [Bl.fl.len];exact JV),J⟩) .n) ?_
  intro w1 hS
  have hS:=(hS.perm (Ax.perm (.c .h (.c .h (.c .h .n))))).A5
  have hq0:AG.DJ (A7 V1 ls1 ev1) a=_:=((AX c3).trans ((AX c4).trans ((AX c5).trans ((AX (show(decide ((AG.at_ (A7 V1 ls1 ev1) a.A3).state=0) != decide (a.kind=1))=false by rw [HB V1 ls1 ev1 hs.1 hs.2];exact c6)).trans ((AX c7).trans ((AX c8).trans (BG c11)))))))
  have hq:(AG.act (A7 V ls ev) a)=_:=(AG.GA c1 a).trans ((congrArg (fun X=>AG.DJ X a) hX.symm).trans hq0)
  refine⟨_,⟨y49,y50,y51,?gv11,?ga11,J⟩,hS⟩
  case gv11=>rw [hq];exact congrArg (fun x=>Value.agg (Bl.enc ⟨0,x⟩).toArray) (Zk V1 ls1 ev1 hs.1 hs.2 hsv a.n)
  case ga11=>rw [hq];dsimp only;exact y52.trans (congrArg AG.BH (show A7 (AN.A3 V1 a.A3 { sv with out:=⟨sv.out.wait,sv.out.shown,sv.out.B5,sv.out.ring.drop (max 0 (min a.n (sv.out.ring.length:Int))).toNat,sv.out.cut⟩ }) (ls1.put a.A3 ⟨sl.queue,sl.wait,sl.told⟩) ev1=AG.set (A7 V1 ls1 ev1) a.A3 ((AG.at_ (A7 V1 ls1 ev1) a.A3).Fl a.n) from E3 hs.1 hs.2 hsv hlv (f:=fun x=>x.Fl a.n) rfl))
 have c11p:=kz c11
 refine Gs (Gt (Ai J J) (Ga J (Gn (.t4 0 4 6 159) ?_)))
 refine HW J (decide_eq_true (by omega)) ?_
 refine Gs (Gm J (Gm J ?_))
 refine BL J eh (.c J (.c J .n)) (.c .h (.c .h (.c .h .n))) (I0 _ V1 ls1 ev1 a.A3 0 0 hs hF0 (by omega) (by omega)) (fun w hS=>⟨gl0.pull gm0 hS (.c .h (.c .h (.c .h .n))),gl1.pull gm1 hS (.c .h (.c .h (.c .h .n))),gl2.pull gm2 hS (.c .h (.c .h (.c .h .n))),gl3.pull gm3 hS (.c .h (.c .h (.c .h .n)))⟩) (fun v53 B hv=>?_)
 obtain⟨y54,y55,y56,rfl,y57,rfl⟩:=hv
 refine Gn (.t2 0 4) (AJ (Gm J ?_))
 refine BL J Ts (.c J .n) (.c .h (.c .h (.c .h .n))) (EB _ y54 y55 y56 11 11 (by rw [y57];exact hF0.leave hs.1 hs.2) (by omega) (by omega)) (fun w hS=>⟨gl0.pull gm0 hS (.c .h (.c .h (.c .h .n))),gl1.pull gm1 hS (.c .h (.c .h (.c .h .n))),gl2.pull gm2 hS (.c .h (.c .h (.c .h .n))),gl3.pull gm3 hS (.c .h (.c .h (.c .h .n)))⟩) (fun v58 B hv=>?_)
 obtain⟨y59,y60,y61,rfl,y62,rfl⟩:=hv
 refine AR (AB (.t1 4) ?_)
 refine AV (AA (Gs (Gt (BF OB LN J .nil) ?_)))
 refine AT (AL (AU.id Bl.fl.len Bl.fl.one) J J J LK J (.t (.t (.t .h)))) ?_
 refine Gn (.t1 4) (Ac ?_)
 refine AY J (.cell J .m3 (.inl ⟨(by rw [Bl.fl.len];exact JV),J⟩) .n) ?_
 intro w1 hS
 have hS:=(hS.perm (Ax.perm (.c .h (.c .h (.c .h .n))))).A5
 have hq0:AG.DJ (A7 V1 ls1 ev1) a=_:=((AX c3).trans ((AX c4).trans ((AX c5).trans ((AX (show(decide ((AG.at_ (A7 V1 ls1 ev1) a.A3).state=0) != decide (a.kind=1))=false by rw [HB V1 ls1 ev1 hs.1 hs.2];exact c6)).trans ((AX c7).trans ((AX c8).trans (AX c11)))))))
 have hq:(AG.act (A7 V ls ev) a)=_:=(AG.GA c1 a).trans ((congrArg (fun X=>AG.DJ X a) hX.symm).trans hq0)
 refine⟨_,⟨y59,y60,y61,?gv12,?ga12,J⟩,hS⟩
 case gv12=>rw [hq];rfl
 case ga12=>rw [hq];dsimp only;exact y62.trans (congrArg AG.BH y57)
theorem O5  (w:World)(gl0:GV 2 GJ w)(gl1:GV 0 AH.DU w)(gl2:HP 7 w)(gl3:HP 8 w):Ev Tryz.prog 33 #[] w fun v w'=>v = .bool true∧CH w w':=by
 refine Ap [] [] Tryz.func33 J J J (St.start w []) ?_
 refine Gs (Ga J (Gn (.nil _) (Gs ?_)))
 refine Ak J gU .n .n (KJ ) (fun v1 B hv=>?_)
 obtain⟨y2,y3,y4,y5,rfl,y6,rfl⟩:=hv
 refine Ga J (Gn (.t1 1) (CL (Gm J (Gt (Ft Tryz.underlying37 J) (Gn (.t2 1 8) ?_)))))
 refine D9 J J ?_
 refine Aa ?_
 refine AB (.t1 1) ?_
 refine AA (Gs (Gm J (Gt (BF eQ eW J (.cons Br.l0 J J J (.cons Br.l1 J J J .nil))) ?_)))
 refine BL J cI (.c J (.c J .n)) (.c .h (.c .h (.c .h .n))) (Jb y2 y3 y4 y5 AG.Qx (by rw [y6];exact AG.jo) (by decide)) (fun w hS=>⟨gl0.pull (by simp) hS (.c .h (.c .h (.c .h .n))),gl1.pull (by simp) hS (.c .h (.c .h (.c .h .n))),gl2.pull (by simp) hS (.c .h (.c .h (.c .h .n))),gl3.pull (by simp) hS (.c .h (.c .h (.c .h .n)))⟩) (fun v8 B hv=>?_)
 obtain⟨y9,y10,y11,rfl,y12,rfl⟩:=hv
 refine BJ J LN J (fun b1=>?_)
 refine AT (AL (AU.id Bl.fl.len Bl.fl.one) J J J LK J .h) ?_
 refine Gn (.t2 1 2) (Gs (Gm J (Gt (BF eQ eW J (.cons Br.l0 J J J (.cons Br.l1 J J J (.cons Br.l3 J J J .nil)))) ?_)))
 refine BL J cI (.c J (.c J .n)) (.c (.t .h) (.c (.t .h) (.c (.t .h) .n))) (Jb y2 y9 y10 y11 AG.type2 (by rw [y12,y6];exact AG.jq) (by decide)) (fun w hS=>⟨gl0.pull (by simp) hS (.c (.t .h) (.c (.t .h) (.c (.t .h) .n))),gl1.pull (by simp) hS (.c (.t .h) (.c (.t .h) (.c (.t .h) .n))),gl2.pull (by simp) hS (.c (.t .h) (.c (.t .h) (.c (.t .h) .n))),gl3.pull (by simp) hS (.c (.t .h) (.c (.t .h) (.c (.t .h) .n)))⟩) (fun v13 B hv=>?_)
 obtain⟨y14,y15,y16,rfl,y17,rfl⟩:=hv
 refine Gn (.t2 1 2) (Gs (Gm J (Gt (BF eQ eW J (.cons Br.l0 J J J .nil)) ?_)))
 refine BL J cI (.c J (.c J .n)) (.c .h (.c .h (.c .h .n))) (Jb y2 y14 y15 y16 AG.Un (by rw [y17,y12,y6];exact AG.jy) (by decide)) (fun w hS=>⟨gl0.pull (by simp) hS (.c .h (.c .h (.c .h .n))),gl1.pull (by simp) hS (.c .h (.c .h (.c .h .n))),gl2.pull (by simp) hS (.c .h (.c .h (.c .h .n))),gl3.pull (by simp) hS (.c .h (.c .h (.c .h .n)))⟩) (fun v18 B hv=>?_)
 obtain⟨y19,y20,y21,rfl,y22,rfl⟩:=hv
 refine BJ J LN J (fun b2=>?_)
 refine AT (AL (AU.id Bl.fl.len Bl.fl.one) J J J LK J .h) ?_
 refine Gn (.t3 1 2 3) (Aq ?_)
 have hA:A7 y19 y20 y21=AG.ia:=by rw [y22,y17,y12,y6];rfl
 have hA3:(A7 y19 y20 y21).Live:=by rw [hA];exact AG.Ze
 refine AJ (Gm J ?_)
 refine Ak J fp (.c J (.c J .n)) (.c (.t .h) .n) (LW y2 y19 2 (by decide)) (fun v23 B hv=>?_)
 obtain⟨rfl,rfl⟩:=hv
 refine Gm J (Gt (AM J J) (Gt (AM J J) (Ga J (Ga J (Gn (.t5 1 2 3 4 5) (Gs (Gt (Al Zp J) ?_)))))))
 refine Gt (AI J dZ .m4 Bl.l0 J J) (Gt (Ai J J) (Gm J (Bp 26 J J (fun q=>Al Zp J) (Bp 26 J J (fun q=>AI (Bo J q) dZ .m1 Bl.l0 J J) (Bp 26 J J (fun q=>Ai (Bo J q) J) (Gt (BQ J J (fun h=>h)) (Gm J ?_)))))))
 refine Bp 31 J J (fun q=>AF J) (Bp 31 J J (fun q=>Ai (Bo J q) J) (Gt (BQ J J (fun h=>h)) (Gm J (Bp 35 J J (fun q=>AF J) (Bp 35 J J (fun q=>Ai (Bo J q) J) (Gt (BQ J J (fun h=>h)) (Gm J ?_)))))))
 refine Bp 39 J J (fun q=>AF J) ?_
 refine cG 39 J (fun c1=>?_) (fun c1=>?_)
 ·
  refine VF (t:=39) J (by first | rfl | exact V5 rfl c1) J fi (.c (Bo J c1) (.c J .n)) (.c .h (.c (.t .h) .n)) (Mk y2 y19 y20 2 (by decide) (hA3.told (by decide) (by decide))) (fun v24 B hv=>?_)
  obtain⟨y25,rfl,y26,rfl⟩:=hv
  refine D7 (t:=39) J J J (Au J Tryz.underlying52 J) ?_
  refine D7 (t:=39) J J J (Cs J J) ?_
  refine Gt (Dm J J) (Ga J (Gn (.t1 0) (Ac ?_)))
  refine AY J (.tmp J .n) ?_
  intro w1 hS;refine⟨?_,hS.Ao⟩;have hd:=AG.jE
  rw [← hA,CV _ _ _ (by decide) (by decide)] at hd
  exact congrArg Value.bool (by rw [y26];exact hd)
 refine DS (t:=39) J J J J ?_
 refine DS (t:=39) J J J J ?_
 refine DS (t:=39) J J J J ?_
 refine Gt (C8 J J) (Ga J (Gn (.t1 0) (Ac ?_)))
 refine AY J (.tmp J .n) ?_
 intro w1 hS;refine⟨?_,hS.Ao⟩;have hs:=Sb y19 y20 y21 (show(0:Int)≤2 by decide) (by decide)
 rw [hA,AG.jD] at hs
 have hc:=c1
 rw [hs,y6,AG.ib,y17,y12,y6,AG.je] at hc
 cases hc
theorem Qt {t0:Nat}(c d:Nat)(f:Hd)(l:List Br)(hu:∀ a∈l,a.bytes.length≤140737488351232):FO Tryz.prog 16 #[f.val, .func (.func 27) #[] #[.pointer (some ⟨c,0,none⟩), .pointer (some ⟨d,0,none⟩)]] [Ab.box c 62 (B1 (n:=4) Dh (Vector.replicate 4 default)),Ab.DP (Iu 9 (Vector.replicate 4 default) (Vector.replicate 4 default)),Ab.box d 63 (B1 (n:=4) A6 (Vector.replicate 4 default))] (fun w=>ja w (Ch [Ab.box c 62 (B1 (n:=4) Dh (Vector.replicate 4 default)),Ab.DP (Iu 9 (Vector.replicate 4 default) (Vector.replicate 4 default)),Ab.box d 63 (B1 (n:=4) A6 (Vector.replicate 4 default))]) f t0 4 (l.flatMap Br.enc)∧(GV 2 GJ w∧2 ∉ Ch [Ab.box c 62 (B1 (n:=4) Dh (Vector.replicate 4 default)),Ab.DP (Iu 9 (Vector.replicate 4 default) (Vector.replicate 4 default)),Ab.box d 63 (B1 (n:=4) A6 (Vector.replicate 4 default))])∧(GV 0 AH.DU w∧0 ∉ Ch [Ab.box c 62 (B1 (n:=4) Dh (Vector.replicate 4 default)),Ab.DP (Iu 9 (Vector.replicate 4 default) (Vector.replicate 4 default)),Ab.box d 63 (B1 (n:=4) A6 (Vector.replicate 4 default))])∧(HP 7 w∧7 ∉ Ch [Ab.box c 62 (B1 (n:=4) Dh (Vector.replicate 4 default)),Ab.DP (Iu 9 (Vector.replicate 4 default) (Vector.replicate 4 default)),Ab.box d 63 (B1 (n:=4) A6 (Vector.replicate 4 default))])∧(HP 8 w∧8 ∉ Ch [Ab.box c 62 (B1 (n:=4) Dh (Vector.replicate 4 default)),Ab.DP (Iu 9 (Vector.replicate 4 default) (Vector.replicate 4 default)),Ab.box d 63 (B1 (n:=4) A6 (Vector.replicate 4 default))])∧(GI 1 w∧1 ∉ Ch [Ab.box c 62 (B1 (n:=4) Dh (Vector.replicate 4 default)),Ab.DP (Iu 9 (Vector.replicate 4 default) (Vector.replicate 4 default)),Ab.box d 63 (B1 (n:=4) A6 (Vector.replicate 4 default))])) (fun v B=>∃ p:Option Addr,v = .tuple #[.pointer p, .bool true]∧B = []):=by
 intro w hS0 hH
 obtain⟨r0,⟨gl0,gm0⟩,⟨gl1,gm1⟩,⟨gl2,gm2⟩,⟨gl3,gm3⟩,⟨gl4,gm4⟩⟩:=hH
 have hfl:=r0.1.Lz Br.fl (by decide)
 refine Ap _ _ Tryz.func16 J J J (hS0) ?_
 refine Gs (Ga J (Ga J (Gn (.t2 0 1) (CL ?_))))
 refine BC J jf .n (fun w hS=>O5 w (gl0.stM gm0 hS) (gl1.stM gm1 hS) (gl2.stM gm2 hS) (gl3.stM gm3 hS)) ?_
 refine Gt (BZ J) (Gn (.t3 0 1 10) ?_)
 refine D9 J J ?_
 refine Aa ?_
 refine AB (.t2 0 1) ?_
 refine AA (Gs ?_)
 refine Ak J gU .n .n (KJ ) (fun v1 B hv=>?_)
 obtain⟨y2,y3,y4,y5,rfl,y6,rfl⟩:=hv
 refine Ga J (Gn (.t3 0 1 6) (CL (Ga J (AR (AA (Ag ?_))))))
 refine Bw (.t4 7 0 1 6) ?_
 refine Be (.t (.t (.t (.t (.t .h))))) ?_
 refine Be (.t (.t (.t (.t (.t .h))))) ?_
 refine Be (.t (.t (.t (.t (.t .h))))) ?_
 refine Be (.t (.t (.t (.t (.t .h))))) ?_
 refine Be (.t (.t (.t (.t (.t .h))))) ?_
 refine Be (.t (.t (.t (.t (.t .h))))) ?_
 refine Yu (fun(k:Int) (V1:AN) (ls1:Vector BD 4) (ev1:List Ing.Event) (O1:Vector Ad 4) (A1:Vector (List Ad) 4) (H1:Vector Hd 4)=>0≤k∧k≤150∧k≤(l.length:Int)∧A7 V1 ls1 ev1=(AG.new.run (l.take k.toNat)).1∧(∀ j:Int,0≤j→j < 4→AG.GN j (O1.at j) (A1.at j) ((AG.new.run (l.take k.toNat)).1))) (fun(k:Int) (V1:AN) (ls1:Vector BD 4) (ev1:List Ing.Event) (O1:Vector Ad 4) (A1:Vector (List Ad) 4) (H1:Vector Hd 4)=>(150 - k).toNat) (fun(k:Int) (V1:AN) (ls1:Vector BD 4) (ev1:List Ing.Event) (O1:Vector Ad 4) (A1:Vector (List Ad) 4) (H1:Vector Hd 4)=> [(7, .int .i64 k)]) (fun(k:Int) (V1:AN) (ls1:Vector BD 4) (ev1:List Ing.Event) (O1:Vector Ad 4) (A1:Vector (List Ad) 4) (H1:Vector Hd 4)=> [Ab.box y2 101 (AN.enc V1),Ab.DP (CQ 9 (AN.Ar V1) ls1),Ab.own (AN.last V1) 56 16 (ev1.flatMap Ing.Event.enc),Ab.box c 62 (B1 (n:=4) Dh H1),Ab.DP (Iu 9 H1 A1),Ab.box d 63 (B1 (n:=4) A6 O1)]) (0) (y3) (y4) (y5) ((Vector.replicate 4 default)) ((Vector.replicate 4 default)) ((Vector.replicate 4 default)) ?_ J J (fun k V1 ls1 ev1 O1 A1 H1 hI1=>?_)
 · exact⟨by omega,by omega,by omega,y6,cM⟩
 obtain⟨hI11,hI12,hI13,hI14,hI15⟩:=hI1
 refine CL (Gm J (Gm J (Gt (Au J Tryz.underlying22 J) (Gt (BA J J) (Gm J (Bp 16 J J (fun q=>AF J) (Bp 16 J J (fun q=>BA (Bo J q) J) ?_)))))))
 refine Gt (BQ J J (fun h=>h)) (Gn (.t5 0 1 6 7 19) ?_)
 refine Gc (fun c1=>?_) (fun c1=>?_)
 ·
  have c1p:=kz c1
  refine Aa ?_
  refine AB (.t4 0 1 6 7) ?_
  refine AA (Aq (Ag (Gs (Gm J (Gm J (Gm J ?_))))))
  refine Gt (Bz fQ (by decide) (Kn.bt r0) J J (by omega) (by omega)) ?_
  refine Gt (QU J dP (by decide) Br.fl (Kn.bt r0) (by omega)) ?_
  refine BL J cI (.c J (.c J .n)) (.c .h (.c .h (.c .h .n))) (Jb y2 V1 ls1 ev1 (l.getD k.toNat default) (by rw [hI14];exact AG.Live.run _ AG.M3) (hu _ (RT (d:=default) (xs:=l) (i:=k.toNat) (by omega)))) (fun w hS=>⟨gl0.pull gm0 hS (.c .h (.c .h (.c .h .n))),gl1.pull gm1 hS (.c .h (.c .h (.c .h .n))),gl2.pull gm2 hS (.c .h (.c .h (.c .h .n))),gl3.pull gm3 hS (.c .h (.c .h (.c .h .n)))⟩) (fun v8 B hv=>?_)
  obtain⟨y9,y10,y11,rfl,y12,rfl⟩:=hv
  refine BJ J LN J (fun b1=>?_)
  refine AT (AL (AU.id Bl.fl.len Bl.fl.one) J J J LK J .h) ?_
  refine Gn (.t5 0 1 6 7 8) (Aq ?_)
  refine BE (N:=9) [0,0,0,0,12,28,0,127,255] mix (by kernel_rfl) J ?_
  refine Pf 0 J (AF J) (Pf 1 J (AF J) (Pf 2 J (AF J) (Pf 3 J (AF J) ?_)))
  refine Pf 4 J (Bz fQ (by decide) (Kn.bt r0) J J (by omega) (by omega)) ?_
  refine Pf 5 J (QU J dP (by decide) Br.fl (Kn.bt r0) (by omega)) ?_
  refine Pf 6 J (AZ J JV .m0 (AU.id Bl.fl.len Bl.fl.one) J) ?_
  refine Aj 7 J (by kernel_rfl) ?_
  refine Xb J jP J (.c J (.c J (.c J .n))) (.c (.t .h) (.c (.t .h) (.c (.t (.t .h)) (.c (.t (.t .h)) (.c (.t (.t .h)) .n))))) (I6 y2 y9 y10 y11 _ _ c d O1 A1 H1 (by rw [y12,hI14];exact(AG.Live.run _ AG.M3).act _) (eu (AG.Hz.run (l.take k.toNat) AG.Qc) (AG.Plain.B8.run (l.take k.toNat) AG.W9) (by rw [AG.TO _ (by show(0:Int)+_≤400;rw [List.length_take];omega)];show(0:Int)+_ < 400;rw [List.length_take];omega) (by rw [y12,hI14]) (by rw [hI14]) hI15)) (fun w hS=>gl4.pull gm4 hS (.c (.t .h) (.c (.t .h) (.c (.t (.t .h)) (.c (.t (.t .h)) (.c (.t (.t .h)) .n)))))) (fun v13 B hv=>?_)
  obtain⟨y14,y15,y16,rfl,y17,rfl⟩:=hv
  refine Bu J ⟨?_,?_⟩
  · exact(Pk (Pk (Pk (Pk (Pk (Pk (Pk As)))))))
  refine Pf 8 J (BZ J) ?_
  refine A2 (by kernel_rfl) ?_
  refine AB (.t5 0 1 6 7 36) ?_
  refine AA ?_
  refine D9 J J ?_
  refine Aa ?_
  refine AB (.t4 0 1 6 7) ?_
  refine AV (AA (AJ (Gm J ?_)))
  refine Gt (Ay J J (IntWalk.i64_in _ (by omega))) ?_
  refine Ga J ?_
  refine AR (AB (.t4 0 1 6 7) ?_)
  refine CK (.c .h (.c .h (.c (.t (.t (.t (.t .h)))) (.c .h (.c .h (.c .h .n)))))) ?_
  refine Cl ?_
  refine YH (k+1) _ _ _ _ _ _ ?_ ?_ (.t4 7 0 1 6) (.refl _)
  · exact⟨by omega,by omega,by omega,by rw [AG.Ua hI11 (by omega),← hI14];exact y12,(by rw [AG.Ua hI11 (by omega),← hI14,← y12];exact y17)⟩
  · omega
 refine Bg (AW (AW (Ah ?_)))
 refine AB (.t1 6) ?_
 refine AA (Gs (Gm J (Ga J (Ga J (Gn (.t2 4 5) (Ac ?_))))))
 refine AY J (.tmp J (.tmp J .n)) ?_
 intro w1 hS
 have hS:=(hS.perm (Ax.perm .n)).A5
 exact⟨_,⟨_,J,J⟩,hS⟩
end Go.Proofs.YtoidpggbbfncpaaGreatDoor
