/- What the functions that the law TopSilent reaches compute: walks, part 5. No condition. -/
import Derived.Test.YtoidpggbbfncpaaGreatDoorCards
import Derived.Test.YtoidpggbbfncpaaGreatDoorTie
import Derived.Deep.DeepHandedRow
import Derived.Test.YtoidpggbbfncpaaGreatDoorRows
import Derived.Test.YtoidpggbbfncpaaGreatDoorTopSilentEc3
import Derived.Test.YtoidpggbbfncpaaGreatDoorTopSilentRa1
import Derived.Test.YtoidpggbbfncpaaGreatDoorTopSilentRb1
import Derived.Test.YtoidpggbbfncpaaGreatDoorTopSilentRc1
import Derived.Test.YtoidpggbbfncpaaGreatDoorTopSilentWalks
import Derived.Test.YtoidpggbbfncpaaGreatDoorTopSilentWalks2
import Derived.Test.YtoidpggbbfncpaaGreatDoorTopSilentWalks3
import Derived.Test.YtoidpggbbfncpaaGreatDoorTopSilentWalks4
set_option linter.unusedSimpArgs false
set_option linter.unusedVariables false
set_option maxRecDepth 100000
set_option maxHeartbeats 1000000
namespace Go.Proofs.YtoidpggbbfncpaaGreatDoor
open Go Go.Ing Go.RowKit Go.ChangeShapes Go.WideShapes Go.ChangeAt
theorem Mj (X:AI)(d:Int)(hw:X.DL):Fx Tryz.prog 78 #[.agg X.enc.toArray, .int .i64 d] [] (fun w=>(GV 0 AI.DT w∧0 ∉ Cp [])) (fun v B=>∃ h:Hd,v = .tuple #[.agg ((AF.CD X d).1.enc).toArray,h.val, .int .i64 (AF.CD X d).2.2]∧h.len=(AF.CD X d).2.1.length∧B = [Af.own h 56 16 ((AF.CD X d).2.1.flatMap Ing.Event.enc)]):=by
 intro w hS0 hH
 obtain⟨gl0,gm0⟩:=hH
 have hm:=Cw d
 refine Ao _ _ Tryz.func78 rfl rfl rfl (hS0) ?_
 refine Gs ?_
 refine B4 rfl rfl rfl (fun b1=>?_)
 refine A6 rfl NX rfl (fun b2=>?_)
 refine Ga rfl (Ga rfl (Gn (.t3 1 2 4) (CH (Gt (AU rfl Be .m1 (AQ.id AI.fl.len AI.fl.one) rfl) ?_))))
 refine BE rfl bX (.c rfl .n) (fun w hS=>Hs _ w) ?_
 refine Gt (BX rfl) (Gn (.t4 1 2 4 16) ?_)
 refine Gc (fun c1=>?_) (fun c1=>?_)
 ·
  refine Gs (Gt (AU rfl Be .m1 (AQ.id AI.fl.len AI.fl.one) rfl) ?_)
  refine AO (AJ (AQ.id AI.fl.len AI.fl.one) rfl rfl rfl EE rfl .h) ?_
  refine Ga rfl (Ga rfl (Gn (.t3 4 5 6) (Ae (AE ?_))))
  refine AZ rfl (.cell rfl .m0 (.inl ⟨(by rw [AI.fl.len];exact Be),rfl⟩) (.tmp rfl (.tmp rfl .n))) ?_
  intro w1 hS
  have hS:=hS.Cr 56 16
  have hS:=(hS.perm (Ax.perm (.c .h .n))).A3
  have hq:AF.CD X d=_:=BJ c1
  refine⟨_,⟨⟨none,0,0⟩,?hv,?hl,?hB⟩,hS⟩
  case hv=>rw [hq];rfl
  case hl=>rw [hq];rfl
  case hB=>rw [hq];rfl
 have c1p:=kz c1
 refine Aa ?_
 refine AB (.t3 1 2 4) ?_
 refine AA (Gs (Ga rfl (AT (AA (CH (Gm rfl (AT ?_)))))))
 refine AA (Ak ?_)
 refine Bt (.t5 7 18 1 2 4) ?_
 refine FE Ing.Event.enc 56 16 ?_
 refine BZ (.t (.t .h)) ?_
 refine BZ (.t .h) ?_
 refine D1 (fun(k:Int) (s:AI × List Ing.Event) (h:Hd)=>0≤k∧k≤6∧s=AF.Dg X d k.toNat∧s.1.Bk=true∧s.1.DL∧(s.2.length:Int)≤13 * k∧h.len=s.2.length) (fun(k:Int) (s:AI × List Ing.Event) (h:Hd)=>(6 - k).toNat) (fun(k:Int) (s:AI × List Ing.Event) (h:Hd)=> [(7,h.val),(18, .int .i64 k)]) (fun(k:Int) (s:AI × List Ing.Event) (h:Hd)=> [Af.own h 56 16 (s.2.flatMap Ing.Event.enc),Af.box b1 35 (AI.enc s.1)]) (0) ((X,[])) (_) ?_ rfl rfl (fun k s h hI1=>?_)
 · exact⟨by omega,by omega,rfl,by simpa using c1,hw,by simp,rfl⟩
 obtain⟨hI11,hI12,hI13,hI14,hI15,hI16,hI17⟩:=hI1
 refine Gs (Gt (BC rfl rfl) (AT (AA (Au ?_))))
 refine Gc (fun c2=>?_) (fun c2=>?_)
 ·
  have c2p:=kz c2
  have hbe:=AF.HN hI14 hI11 (show k < 6 by omega)
  have hfo:=hbe.B2
  refine Aa ?_
  refine AB (.t5 1 2 4 7 18) ?_
  refine AA (Au (Ak (Gs (Gm rfl (Ga rfl (Gn (.t6 1 2 4 7 8 18) (Gs ?_)))))))
  refine Gm rfl (Gt (Aj Br rfl) ?_)
  refine Gt (AV DB rfl rfl (by first | omega | (dsimp only;omega) | (have:=Cw (d.tmod 3+3+k);omega)) (by first | omega | (dsimp only;omega) | (have:=Cw (d.tmod 3+3+k);omega))) ?_
  refine Gt (AU rfl GC .m1 (AI.l2.comp (AQ.arr (n:=6) An.fl (by first | omega | (dsimp only;omega) | (have:=Cw (d.tmod 3+3+k);omega)) (by first | omega | (dsimp only;omega) | (have:=Cw (d.tmod 3+3+k);omega)))) rfl) ?_
  refine A6 rfl L0 rfl (fun b3=>?_)
  refine AO (AJ (AQ.id An.fl.len An.fl.one) rfl rfl rfl Kr rfl .h) ?_
  refine Gn (.t7 1 2 4 7 8 9 18) (CH (Gt (Aj Ij rfl) (Gt (AG rfl DM .m0 An.l1 rfl rfl) (Gt (BX rfl) (Gm rfl (Bf 28 rfl rfl (fun q=>Aj GS rfl) (Bf 28 rfl rfl (fun q=>AG (cF rfl q) A5 .m0 An.l5 rfl rfl) ?_)))))))
  refine Bf 28 rfl rfl (fun q=>Ai (cF rfl q) rfl) ?_
  refine Gt (BU rfl rfl (fun h=>by rw [h];rfl)) ?_
  refine Gn (.t8 1 2 4 7 8 9 18 32) ?_
  refine Gc (fun c3=>?_) (fun c3=>?_)
  ·
   have c3p:=kz c3
   refine Bl (AY (Am ?_))
   refine AB (.t5 1 2 4 7 18) ?_
   refine AA (AK ?_)
   refine Gt (Ay rfl rfl (IntWalk.i64_in _ (by first | omega | (dsimp only;omega) | (have:=Cw (d.tmod 3+3+k);omega)))) ?_
   refine Gm rfl ?_
   refine AT (AB (.t5 1 2 4 7 18) ?_)
   refine B0 (k+1) (s) _ ?_ ?_ (.t5 7 18 1 2 4) (.cons _ (.refl _))
   · have hrs:AF.EN d k s=_:=(BJ c3)
     have hrg:=AF.Fp (draw:=d) hI14 hI15 hI11 (by omega)
     rw [hrs] at hrg
     exact⟨by omega,by omega,by rw [AF.H9 hI11,← hI13,hrs],hrg.1,hrg.2.1,(by have:=hrg.2.2;omega),(by first | assumption | (have hso:(AF.CC s.1 k ((s.1.AN.at k).B2 - 1) (AF.ML d k)).out.length=1:=rfl;(try dsimp only at *);simp only [List.length_append] at *;omega))⟩
   · omega
  have c3p:=kz c3
  have hf0:0≤((s.1.AN.at k).B2 - 1)∧((s.1.AN.at k).B2 - 1) < 6:=by omega
  have hbf:=(AF.HN hI14 hf0.1 hf0.2).BP
  refine Aa ?_
  refine AB (.t7 1 2 4 7 8 9 18) ?_
  refine AA (Gs (Gt (Aj GS rfl) (Gt (AG rfl A5 .m0 An.l5 rfl rfl) ?_)))
  refine Gt (Fi rfl rfl (IntWalk.i64_in _ (by first | omega | (dsimp only;omega) | (have:=Cw (d.tmod 3+3+k);omega)))) ?_
  refine Ga rfl (Gn (.t8 1 2 4 7 8 9 10 18) (Au (Au ?_)))
  refine BN (N:=16) [0,0,3,7,15,31,63,127,127,511,1023,2047,127,4223,16383,32767] mix (by kernel_rfl) rfl ?_
  refine Pf 0 rfl (AD rfl) (Pf 1 rfl (Aj Br rfl) ?_)
  refine Pf 2 rfl (AV DB rfl rfl (by first | omega | (dsimp only;omega) | (have:=Cw (d.tmod 3+3+k);omega)) (by first | omega | (dsimp only;omega) | (have:=Cw (d.tmod 3+3+k);omega))) ?_
  refine Pf 3 rfl (Aj Ij rfl) ?_
  refine Pf 4 rfl (AG rfl DM .m2 ((AI.l2.comp (AQ.arr (n:=6) An.fl (by first | omega | (dsimp only;omega) | (have:=Cw (d.tmod 3+3+k);omega)) (by first | omega | (dsimp only;omega) | (have:=Cw (d.tmod 3+3+k);omega)))).comp An.l1) rfl rfl) ?_
  refine Pf 5 rfl (BX rfl) (Pf 6 rfl (AD rfl) (Hx 7 42 rfl rfl rfl (fun q=>AD rfl) (Hx 8 42 rfl rfl rfl (fun q=>Aj Br rfl) ?_)))
  refine Bh 9 rfl rfl (by kernel_rfl) (HH (t:=42) rfl rfl (fun q=>by have q1:=q;(try simp at q1);exact I1 (AV DB (cF rfl q) (cF rfl q) (by first | omega | (dsimp only;omega) | (have:=Cw (d.tmod 3+3+k);omega)) (by first | omega | (dsimp only;omega) | (have:=Cw (d.tmod 3+3+k);omega))))) ?_
  refine Hx 10 42 rfl rfl rfl (fun q=>Aj C9 (cF rfl q)) ?_
  refine Bh 11 rfl rfl (by kernel_rfl) (HH (t:=42) rfl rfl (fun q=>by have q1:=q;(try simp at q1);exact I1 (AG (cF rfl q) A5 .m2 ((AI.l2.comp (AQ.arr (n:=6) An.fl (by first | omega | (dsimp only;omega) | (have:=Cw (d.tmod 3+3+k);omega)) (by first | omega | (dsimp only;omega) | (have:=Cw (d.tmod 3+3+k);omega)))).comp An.l3) rfl rfl))) ?_
  refine Hx 12 42 rfl rfl rfl (fun q=>Aj C9 rfl) (Hx 13 42 rfl rfl rfl (fun q=>AG (cF rfl q) A5 .m0 An.l3 rfl rfl) (Hx 14 42 rfl rfl rfl (fun q=>Cb (cF rfl q) (cF rfl q)) ?_))
  refine Pf 15 rfl (BU rfl rfl (fun h=>by rw [h];rfl)) ?_
  refine Az (by kernel_rfl) ?_
  refine AB (.t8 1 2 4 7 8 10 18 51) ?_
  refine AA ?_
  refine Gc (fun c4=>?_) (fun c4=>?_)
  ·
   have c4p:=kz c4
   refine Gs (Gm rfl (Gt (Aj Br rfl) ?_))
   refine Gt (AV DB rfl rfl (by first | omega | (dsimp only;omega) | (have:=Cw (d.tmod 3+3+k);omega)) (by first | omega | (dsimp only;omega) | (have:=Cw (d.tmod 3+3+k);omega))) ?_
   refine Gt (Aj GS rfl) ?_
   refine AO (AJ ((AI.l2.comp (AQ.arr (n:=6) An.fl (by first | omega | (dsimp only;omega) | (have:=Cw (d.tmod 3+3+k);omega)) (by first | omega | (dsimp only;omega) | (have:=Cw (d.tmod 3+3+k);omega)))).comp An.l5) rfl rfl rfl DJ rfl (.t (.t .h))) ?_
   refine Gn (.t5 1 2 4 7 18) (Bl (AY (Am (AA (AK ?_)))))
   refine Gt (Ay rfl rfl (IntWalk.i64_in _ (by first | omega | (dsimp only;omega) | (have:=Cw (d.tmod 3+3+k);omega)))) ?_
   refine Gm rfl ?_
   refine AT (AB (.t5 1 2 4 7 18) ?_)
   refine B0 (k+1) ((s.1.C7 k { s.1.AN.at k with B2:=0 },s.2)) _ ?_ ?_ (.t5 7 18 1 2 4) (.cons _ (.refl _))
   · have hrs:AF.EN d k s=_:=((AX c3).trans (BJ c4))
     have hrg:=AF.Fp (draw:=d) hI14 hI15 hI11 (by omega)
     rw [hrs] at hrg
     exact⟨by omega,by omega,by rw [AF.H9 hI11,← hI13,hrs],hrg.1,hrg.2.1,(by have:=hrg.2.2;omega),(by first | assumption | (have hso:(AF.CC s.1 k ((s.1.AN.at k).B2 - 1) (AF.ML d k)).out.length=1:=rfl;(try dsimp only at *);simp only [List.length_append] at *;omega))⟩
   · omega
  have c4p:=kz c4
  have hsf:=AF.Ld (b:=k) (n:=AF.ML d k) hI14 hI15 (B2:=((s.1.AN.at k).B2 - 1)) hf0.1 hf0.2 c4p.1
  have hht:=AF.L8 (draw:=d) hI11
  refine Aa ?_
  refine AB (.t7 1 2 4 7 8 10 18) ?_
  refine AA (Gs (Gm rfl ?_))
  refine Gt (UM rfl rfl (by first | omega | (dsimp only;omega) | (have:=Cw (d.tmod 3+3+k);omega))) ?_
  refine Gt (Ay rfl rfl (IntWalk.i64_in _ (by first | omega | (dsimp only;omega) | (have:=Cw (d.tmod 3+3+k);omega)))) ?_
  refine Gm rfl ?_
  refine Gt (Ay rfl rfl (IntWalk.i64_in _ (by first | omega | (dsimp only;omega) | (have:=Cw (d.tmod 3+3+k);omega)))) ?_
  refine Gt (UM rfl rfl (by first | omega | (dsimp only;omega) | (have:=Cw (d.tmod 3+3+k);omega))) ?_
  refine Gt (Ay rfl rfl (IntWalk.i64_in _ (by first | omega | (dsimp only;omega) | (have:=Cw (d.tmod 3+3+k);omega)))) ?_
  refine Ga rfl (Gn (.t8 1 2 4 7 8 10 11 18) (Gs (Gt (AU rfl Be .m2 (AQ.id AI.fl.len AI.fl.one) rfl) (Gm rfl (Gt (BL VK Uh rfl (.cons Ag.l0 rfl rfl rfl (.cons Ag.l1 rfl rfl rfl .nil))) ?_)))))
  refine B4 rfl rfl rfl (fun b4=>?_)
  refine Ga rfl (Gn (.t8 1 2 4 7 10 11 12 18) (Gs (Gm rfl (Gm rfl (Gm rfl (Gt (BL N3 Iv rfl (.cons Ing.Event.l0 rfl rfl rfl (.cons Ing.Event.l3 rfl rfl rfl (.cons Ing.Event.l5 rfl rfl rfl .nil)))) ?_))))))
  refine Df Ing.Event.enc 56 16 ?_
  refine Ah rfl Nq (.c rfl (.c rfl .n)) (.c (.t .h) (.c .h .n)) (CU _ ⟨s.1,k,[]⟩ _ { AF.F8 14 with other:=((s.1.AN.at k).B2 - 1),n:=AF.ML d k } rfl (show 0≤k∧k < 6 by omega) (show((s.1.AN.at k).B2 - 1) < 6 by omega) (Nat.zero_le _)) (fun v3 B hv=>?_)
  obtain⟨y4,rfl,y5,rfl⟩:=hv
  refine Gn (.t8 1 2 4 7 10 11 12 18) (Au ?_)
  refine BN (N:=16) [0,0,0,0,12,28,60,0,252,508,1,1025,3073,8191,16383,32767] mix (by kernel_rfl) rfl ?_
  refine Pf 0 rfl (AD rfl) (Pf 1 rfl (AD rfl) (Pf 2 rfl (AD rfl) (Pf 3 rfl (Aj Br rfl) ?_)))
  refine Pf 4 rfl (AV DB rfl rfl (by first | omega | (dsimp only;omega) | (have:=Cw (d.tmod 3+3+k);omega)) (by first | omega | (dsimp only;omega) | (have:=Cw (d.tmod 3+3+k);omega))) ?_
  refine Pf 5 rfl (Aj KJ rfl) ?_
  refine Pf 6 rfl (AG rfl A5 .m4 ((AI.l2.comp (AQ.arr (n:=6) An.fl (by first | omega | (dsimp only;omega) | (have:=Cw (d.tmod 3+3+k);omega)) (by first | omega | (dsimp only;omega) | (have:=Cw (d.tmod 3+3+k);omega)))).comp An.l4) rfl rfl) ?_
  refine Pf 7 rfl (AD rfl) ?_
  refine Pf 8 rfl (Fi rfl rfl (IntWalk.i64_in _ (by first | omega | (dsimp only;omega) | (have:=Cw (d.tmod 3+3+k);omega)))) ?_
  refine Pf 9 rfl (Kh rfl rfl) (Pf 10 rfl (Ba rfl) (Pf 11 rfl (Aj BD rfl) (Pf 12 rfl (Aj Br rfl) ?_)))
  refine Pf 13 rfl (AV DB rfl rfl (by first | omega | (dsimp only;omega) | (have:=Cw (d.tmod 3+3+k);omega)) (by first | omega | (dsimp only;omega) | (have:=Cw (d.tmod 3+3+k);omega))) ?_
  refine Pf 14 rfl (Aj KJ rfl) ?_
  refine Ab 15 rfl (by kernel_rfl) ?_
  refine AO (AJ (((Ag.l0.comp AI.l2).comp (AQ.arr (n:=6) An.fl (by first | omega | (dsimp only;omega) | (have:=Cw (d.tmod 3+3+k);omega)) (by first | omega | (dsimp only;omega) | (have:=Cw (d.tmod 3+3+k);omega)))).comp An.l4) rfl rfl rfl DJ rfl .h) ?_
  refine A7 rfl ⟨?_,?_⟩
  · exact(Pk (Pk (Pk (Pk (Pk (Pk (Pk (Pk (Pk (Pk (Pk (Pk (Pk (Pk (Pk Ac)))))))))))))))
  refine Az (by kernel_rfl) ?_
  refine AB (.t7 1 2 4 7 10 12 18) ?_
  refine AA (Au ?_)
  have hl1:y4.len=1:=y5
  refine AK (Gm rfl (Gm rfl (Gt (Ba rfl) (Gt (Aj CP rfl) (Gt (AG rfl Ds .m0 Ag.l2 rfl rfl) ?_)))))
  refine Ce Ing.Event.fl rfl Tryz.underlying53 N7 Iv rfl W2 (by decide) (by decide) rfl rfl (fun w hS=>Src.D9 Tryz.underlying53 ((Kn.own .m1) w hS)) (by(try dsimp only at *);omega) (fun _=>(.t (.t (.t .h)))) (fun h6 h6l h6z=>?_)
  refine Ga rfl (Gn (.t7 1 2 4 7 10 12 18) (Gs (Gm rfl (Gt (Ba rfl) (Gt (Aj BD rfl) (Gt (AU rfl Be .m0 Ag.l0 rfl) ?_))))))
  refine AO (AJ (AQ.id AI.fl.len AI.fl.one) rfl rfl rfl EE rfl (.t (.t (.t (.t .h))))) ?_
  refine Gn (.t6 1 2 4 7 10 18) (Gs (Gm rfl (Gt (Aj Br rfl) ?_)))
  refine Gt (AV DB rfl rfl (by first | omega | (dsimp only;omega) | (have:=Cw (d.tmod 3+3+k);omega)) (by first | omega | (dsimp only;omega) | (have:=Cw (d.tmod 3+3+k);omega))) ?_
  refine Gt (Aj KJ rfl) ?_
  refine Gt (AG rfl A5 .m4 ((AI.l2.comp (AQ.arr (n:=6) An.fl (by first | omega | (dsimp only;omega) | (have:=Cw (d.tmod 3+3+k);omega)) (by first | omega | (dsimp only;omega) | (have:=Cw (d.tmod 3+3+k);omega)))).comp An.l4) rfl rfl) ?_
  refine Gt (Ai rfl rfl) (Gn (.t7 1 2 4 7 10 18 102) ?_)
  refine Gc (fun c5=>?_) (fun c5=>?_)
  ·
   have c5p:=kz c5
   refine Gs (Ga rfl (Gn (.t6 1 2 4 7 10 18) (Gs (Gt (AU rfl Be .m4 (AQ.id AI.fl.len AI.fl.one) rfl) (Gm rfl ?_)))))
   refine BB rfl eE (.c rfl (.c rfl .n)) .n (O2 (AF.CC s.1 k ((s.1.AN.at k).B2 - 1) (AF.ML d k)).w ((s.1.AN.at k).B2 - 1) hsf) (fun w hS=>gl0.pull gm0 hS .n) (fun v7 B hv=>?_)
   obtain⟨y8,rfl,y9,rfl⟩:=hv
   refine Gm rfl (Gt (AM rfl rfl) (Gt (AM rfl rfl) ?_))
   refine AO (AJ (AQ.id AI.fl.len AI.fl.one) rfl rfl rfl EE rfl (.t (.t (.t (.t (.t .h)))))) ?_
   refine Ga rfl (Gn (.t6 1 2 4 7 13 18) ?_)
   have hl2:y8.len≤12:=by rw [y9];exact(AF.P1 hsf).2.2
   refine AK (Gm rfl (Gm rfl ?_))
   refine Ce Ing.Event.fl rfl Tryz.underlying53 N7 Iv rfl W2 (by decide) (by decide) rfl rfl (fun w hS=>Src.D9 Tryz.underlying53 ((Kn.own .m0) w hS)) (by(try dsimp only at *);omega) (fun _=>(.t (.t (.t (.t .h))))) (fun h11 h11l h11z=>?_)
   refine Ga rfl ?_
   refine AT (AB (.t5 1 2 4 7 18) ?_)
   refine AW (AA (AK ?_))
   refine Gt (Ay rfl rfl (IntWalk.i64_in _ (by first | omega | (dsimp only;omega) | (have:=Cw (d.tmod 3+3+k);omega)))) ?_
   refine Gm rfl ?_
   refine AT (AB (.t5 1 2 4 7 18) ?_)
   refine B0 (k+1) (((AF.H5 (AF.CC s.1 k ((s.1.AN.at k).B2 - 1) (AF.ML d k)).w ((s.1.AN.at k).B2 - 1)).w,(s.2++(AF.CC s.1 k ((s.1.AN.at k).B2 - 1) (AF.ML d k)).out)++(AF.H5 (AF.CC s.1 k ((s.1.AN.at k).B2 - 1) (AF.ML d k)).w ((s.1.AN.at k).B2 - 1)).out)) _ ?_ ?_ (.t5 7 18 1 2 4) (.cons _ (.cons _ (.cons _ (.cons _ (.refl _)))))
   · have hrs:AF.EN d k s=_:=((AX c3).trans ((AX c4).trans (BJ c5)))
     have hrg:=AF.Fp (draw:=d) hI14 hI15 hI11 (by omega)
     rw [hrs] at hrg
     exact⟨by omega,by omega,by rw [AF.H9 hI11,← hI13,hrs],hrg.1,hrg.2.1,(by have:=hrg.2.2;omega),(by first | assumption | (have hso:(AF.CC s.1 k ((s.1.AN.at k).B2 - 1) (AF.ML d k)).out.length=1:=rfl;(try dsimp only at *);simp only [List.length_append] at *;omega))⟩
   · omega
  have c5p:=kz c5
  refine Aa ?_
  refine AB (.t5 1 2 4 7 18) ?_
  refine AW (AA (AK ?_))
  refine Gt (Ay rfl rfl (IntWalk.i64_in _ (by first | omega | (dsimp only;omega) | (have:=Cw (d.tmod 3+3+k);omega)))) ?_
  refine Gm rfl ?_
  refine AT (AB (.t5 1 2 4 7 18) ?_)
  refine B0 (k+1) (((AF.CC s.1 k ((s.1.AN.at k).B2 - 1) (AF.ML d k)).w,s.2++(AF.CC s.1 k ((s.1.AN.at k).B2 - 1) (AF.ML d k)).out)) _ ?_ ?_ (.t5 7 18 1 2 4) (.cons _ (.cons _ (.cons _ (.refl _))))
  · have hrs:AF.EN d k s=_:=((AX c3).trans ((AX c4).trans (AX c5)))
    have hrg:=AF.Fp (draw:=d) hI14 hI15 hI11 (by omega)
    rw [hrs] at hrg
    exact⟨by omega,by omega,by rw [AF.H9 hI11,← hI13,hrs],hrg.1,hrg.2.1,(by have:=hrg.2.2;omega),(by first | assumption | (have hso:(AF.CC s.1 k ((s.1.AN.at k).B2 - 1) (AF.ML d k)).out.length=1:=rfl;(try dsimp only at *);simp only [List.length_append] at *;omega))⟩
  · omega
 have c2p:=kz c2
 obtain rfl:k=6:=by omega
 refine Bl (AY (AY (Am ?_)))
 refine AB (.t3 2 4 7) ?_
 refine AA (Gs (Gt (AU rfl Be .m1 (AQ.id AI.fl.len AI.fl.one) rfl) (Gm rfl ?_)))
 refine AO (AJ (AQ.id AI.fl.len AI.fl.one) rfl rfl rfl EE rfl (.t (.t .h))) ?_
 refine Ga rfl (Ga rfl (Gn (.t3 4 5 6) (Ae ?_)))
 refine AZ rfl (.cell rfl .m2 (.inl ⟨(by rw [AI.fl.len];exact Be),rfl⟩) (.tmp rfl (.tmp rfl .n))) ?_
 intro w1 hS
 have hS:=(hS.perm (Ax.perm (.c .h .n))).A3
 have hq:AF.CD X d=((AF.Dg X d 6).1,(AF.Dg X d 6).2,0):=AX c1
 have hs6:s=AF.Dg X d 6:=hI13
 rw [← hs6] at hq
 refine⟨_,⟨h,?hv,?hl,?hB⟩,hS⟩
 case hv=>rw [hq];(try rfl)
 case hl=>rw [hq];exact hI17
 case hB=>rw [hq];(try rfl)
theorem EW (p:Aw)(s:As)(hs:s.length≤9000000000000000000)(w:World):Ee Tryz.prog 62 #[.agg p.enc.toArray,BW s] w fun v w'=>v = .tuple #[.agg (Aw.enc ⟨p.wait,(Page.send p s).1.shown,(Page.send p s).1.Bq,(Page.send p s).1.ring,(Page.send p s).1.cut⟩).toArray, .int .i64 (Page.send p s).2]∧B9 w w':=by
 refine Ao [] [] Tryz.func62 rfl rfl rfl (St.start w []) ?_
 refine Gs ?_
 refine B4 rfl rfl rfl (fun b1=>?_)
 refine A6 rfl UL rfl (fun b2=>?_)
 refine Ga rfl (Gn (.t3 1 2 4) (Au (Ak (Gs (Gt (AU rfl Cv .m1 (AQ.id Aw.fl.len Aw.fl.one) rfl) ?_)))))
 refine BE rfl bZ (.c rfl .n) (fun w hS=>G9 _ w) ?_
 refine Gt (BX rfl) (Ga rfl (Gn (.t4 1 2 4 6) ?_))
 refine Gc (fun c1=>?_) (fun c1=>?_)
 ·
  refine Gs (Gt (AU rfl Cv .m1 (AQ.id Aw.fl.len Aw.fl.one) rfl) ?_)
  refine AO (AJ (AQ.id Aw.fl.len Aw.fl.one) rfl rfl rfl Fb rfl .h) ?_
  refine Ga rfl (Gn (.t2 4 5) (Ae (AS (AE ?_))))
  refine AZ rfl (.cell rfl .m0 (.inl ⟨(by rw [Aw.fl.len];exact Cv),rfl⟩) (.tmp rfl .n)) ?_
  intro w1 hS;refine⟨?_,hS.Al⟩;simp only [Page.send,Page.put,Page.of,c1,↓reduceIte,Bool.false_eq_true];rfl
 have c1p:=kz c1
 have hg:=(Page.Hq p).1 (by simpa using c1)
 refine Gs (Gt (Aj JI rfl) (Gt (AG rfl DM .m1 Aw.l4 rfl rfl) (Ga rfl (Gn (.t4 1 2 4 11) ?_))))
 refine Gc (fun c2=>?_) (fun c2=>?_)
 ·
  refine Gs (Gt (AU rfl Cv .m1 (AQ.id Aw.fl.len Aw.fl.one) rfl) ?_)
  refine AO (AJ (AQ.id Aw.fl.len Aw.fl.one) rfl rfl rfl Fb rfl .h) ?_
  refine Ga rfl (Gn (.t2 4 5) (Ae (AS (AE ?_))))
  refine AZ rfl (.cell rfl .m0 (.inl ⟨(by rw [Aw.fl.len];exact Cv),rfl⟩) (.tmp rfl .n)) ?_
  intro w1 hS;refine⟨?_,hS.Al⟩;rw [show Page.send p s=(Page.of p,6) from by simp only [Page.send,c1,c2,↓reduceIte,Bool.false_eq_true]];rfl
 have c2p:=kz c2
 refine Gs (Gm rfl (Gt (BO rfl Tryz.underlying9 rfl) (Gt (Aj Ih rfl) (Gt (AG rfl CK .m1 Aw.l3 rfl rfl) (Gt (BO rfl Tryz.underlying9 rfl) ?_)))))
 refine Gt (Fi rfl rfl (IntWalk.i64_in _ (by first | omega | (simp at *;omega)))) ?_
 refine Gt (Cn rfl rfl) (Ga rfl (Gn (.t4 1 2 4 15) ?_))
 refine Gc (fun c3=>?_) (fun c3=>?_)
 ·
  refine Gs (Gt (Aj JI rfl) ?_)
  refine AO (AJ Aw.l4 rfl rfl rfl Ks rfl (.t .h)) ?_
  refine Gn (.t2 2 4) (Gs (Gt (AU rfl Cv .m1 (AQ.id Aw.fl.len Aw.fl.one) rfl) ?_))
  refine AO (AJ (AQ.id Aw.fl.len Aw.fl.one) rfl rfl rfl Fb rfl .h) ?_
  refine Ga rfl (Gn (.t2 4 5) (Ae (AS (AE ?_))))
  refine AZ rfl (.cell rfl .m0 (.inl ⟨(by rw [Aw.fl.len];exact Cv),rfl⟩) (.tmp rfl .n)) ?_
  intro w1 hS;refine⟨?_,hS.Al⟩;simp only [Page.send,Page.put,Page.of,c1,c2,c3,↓reduceIte,Bool.false_eq_true];rfl
 have c3p:=kz c3
 refine Aa ?_
 refine AB (.t3 1 2 4) ?_
 refine AW (AA (Gs (Gt (Aj Ih rfl) (Gt (AG rfl CK .m1 Aw.l3 rfl rfl) (Gm rfl ?_)))))
 refine Gt (CZ rfl rfl (by first | omega | (simp at *;omega))) ?_
 refine Gt (Aj Ih rfl) ?_
 refine AO (AJ Aw.l3 rfl rfl rfl Et rfl (.t .h)) ?_
 refine Gn (.t2 2 4) (Gs (Gt (AU rfl Cv .m1 (AQ.id Aw.fl.len Aw.fl.one) rfl) ?_))
 refine AO (AJ (AQ.id Aw.fl.len Aw.fl.one) rfl rfl rfl Fb rfl .h) ?_
 refine Ga rfl (Gn (.t2 4 5) (Ae ?_))
 refine AZ rfl (.cell rfl .m0 (.inl ⟨(by rw [Aw.fl.len];exact Cv),rfl⟩) (.tmp rfl .n)) ?_
 intro w1 hS;refine⟨?_,hS.Al⟩;simp only [Page.send,Page.put,Page.of,c1,c2,c3,↓reduceIte,Bool.false_eq_true];rfl
theorem H6 (b:Nat)(m:Int)(h0:0 < m)(h1:m≤281474976710656):Jp Tryz.prog 186 #[.pointer (some ⟨b,0,none⟩), .int .i64 m] [Af.box b 107 (Db.enc ⟨some ⟨b,0,none⟩,⟨none,0,0⟩⟩)] (fun v B=>∃ h',v = .tuple #[]∧h'.Z∧h'.len=0∧B = [Af.box b 107 (Db.enc ⟨some ⟨b,0,none⟩,h'⟩),Af.own h' 5 1 (([]:As).flatMap DV)]):=by
 intro w hS0
 refine Ao _ _ Tryz.func186 rfl rfl rfl (hS0) ?_
 refine Au ?_
 refine BN (N:=16) [0,1,3,7,15,31,0,127,255,0,512,1536,3584,7680,16383,32767] mix (by kernel_rfl) rfl ?_
 refine Pf 0 rfl (AD rfl) (Pf 1 rfl (Ba rfl) (Pf 2 rfl (Aj E6 rfl) (Pf 3 rfl (AG rfl Ic .m0 Db.l1 rfl rfl) (Pf 4 rfl (MF rfl Tryz.underlying105 rfl) ?_))))
 refine Pf 5 rfl (YU rfl rfl (IntWalk.i64_in _ (by first | omega | (dsimp only;omega)))) ?_
 refine Pf 6 rfl (AD rfl) ?_
 refine Pf 7 rfl (Ay rfl rfl (IntWalk.i64_in _ (by first | omega | (dsimp only;omega)))) ?_
 refine Pf 9 rfl (AD rfl) (Pf 10 rfl (Ba rfl) (Pf 11 rfl (Aj E6 rfl) (Pf 12 rfl (AG rfl Ic .m0 Db.l1 rfl rfl) (Pf 13 rfl (Av rfl Tryz.underlying105 rfl) ?_))))
 refine Ab 8 rfl (by kernel_rfl) ?_
 refine SU (ps:=#[3]) rfl Tryz.func193 (by kernel_rfl) (by kernel_rfl) (by kernel_rfl) (by kernel_rfl) Tryz.underlying105 Vw rfl (by first | omega | (dsimp only;omega)) (by first | omega | (dsimp only;omega)) (fun b1 b1c b1x b1l b1k=>?_)
 refine BH rfl ⟨?_,?_⟩
 · exact(Po rfl (Av rfl Tryz.underlying105 rfl) rfl rfl (Po rfl (AG rfl Ic .m1 Db.l1 rfl rfl) rfl rfl (Po rfl (Aj E6 rfl) rfl rfl (Po rfl (Ba rfl) rfl rfl (Po rfl (AD rfl) rfl rfl (Pk (Pk (Pk (Pk (Pk (Pk (Pk (Pk Ac)))))))))))))
 refine Ab 14 rfl (by kernel_rfl) ?_
 refine Kg Wv rfl Tryz.underlying105 Vw rfl rfl (by first | omega | (dsimp only;omega)) (by first | omega | (dsimp only;omega)) (fun _=> .h) ?_
 refine BH rfl ⟨?_,?_⟩
 · exact(Pk (Pk (Pk (Pk (Pk (Pk (Pk (Pk (Pk (Pk (Pk (Pk (Pk Ac)))))))))))))
 refine Pf 15 rfl (A1 rfl) ?_
 refine Az (by kernel_rfl) ?_
 refine AB (.t2 0 4) ?_
 refine AA (Gs (Gm rfl (Gm rfl (Gt (Ba rfl) (Gt (Aj E6 rfl) (Gt (AG rfl Ic .m1 Db.l1 rfl rfl) (Gt (XU rfl Tryz.underlying105 Vw rfl rfl) ?_)))))))
 refine Gn (.t2 0 4) (AK (Gm rfl (Gm rfl (Gt (Ba rfl) (Gt (Aj E6 rfl) ?_)))))
 refine AO (AJ Db.l1 rfl rfl rfl Uk rfl (.t .h)) ?_
 refine AT ?_
 refine Bo rfl .n ?_
 intro w1 hS
 have hS:=(hS.perm (Ax.perm (.c (.t .h) (.c .h .n)))).A3
 exact⟨_,⟨_,rfl,⟨by intro a h;cases h;rfl,fun _=>by dsimp only at b1k ⊢;omega⟩,rfl,rfl⟩,hS⟩
theorem H3 (b:Nat)(m:Int)(h0:0≤m)(h1:m≤281474976710656):Jp Tryz.prog 175 #[.pointer (some ⟨b,0,none⟩), .int .i64 m] [Af.box b 107 (Db.enc ⟨none,⟨none,0,0⟩⟩)] (fun v B=>∃ h',v = .tuple #[]∧h'.Z∧h'.len=0∧B = [Af.box b 107 (Db.enc ⟨some ⟨b,0,none⟩,h'⟩),Af.own h' 5 1 (([]:As).flatMap DV)]):=by
 intro w hS0
 refine Ao _ _ Tryz.func175 rfl rfl rfl (hS0) ?_
 refine Gs (Gm rfl ?_)
 refine Ah rfl ah (.c rfl .n) (.c .h .n) (DF _ _ _ (.inl rfl)) (fun v1 B hv=>?_)
 obtain⟨rfl,rfl⟩:=hv
 refine Gn (.t2 0 1) (CH (Gm rfl (Gt (BC rfl rfl) (Gn (.t3 0 1 7) ?_))))
 refine EK rfl (by simp;omega) ?_
 refine Aa ?_
 refine AB (.t2 0 1) ?_
 refine AA (Au ?_)
 refine BN (N:=13) [0,1,3,7,15,0,32,96,224,480,1023,0,4095] mix (by kernel_rfl) rfl ?_
 refine Pf 0 rfl (AD rfl) (Pf 1 rfl (Ba rfl) (Pf 2 rfl (Aj E6 rfl) (Pf 3 rfl (AG rfl Ic .m0 Db.l1 rfl rfl) (Pf 4 rfl (MF rfl Tryz.underlying105 rfl) (Pf 5 rfl (AD rfl) (Pf 6 rfl (Ba rfl) (Pf 7 rfl (Aj E6 rfl) ?_)))))))
 refine Pf 8 rfl (AG rfl Ic .m0 Db.l1 rfl rfl) (Pf 9 rfl (Av rfl Tryz.underlying105 rfl) ?_)
 refine Pf 10 rfl (Fi rfl rfl (IntWalk.i64_in _ (by first | omega | (dsimp only;omega)))) ?_
 refine Pf 11 rfl (AD rfl) (Pf 12 rfl (BC rfl rfl) ?_)
 refine Az (by kernel_rfl) ?_
 refine AB (.t3 0 1 21) ?_
 refine AA ?_
 refine Gc (fun c1=>?_) (fun c1=>?_)
 ·
  have c1p:=kz c1
  refine AK (Gm rfl (Gm rfl ?_))
  refine Ah rfl dH (.c rfl (.c rfl .n)) (.c .h .n) (H6 _ _ (by dsimp only at *;omega) h1) (fun v2 B hv=>?_)
  obtain⟨y3,rfl,y4,y5,rfl⟩:=hv
  refine AT ?_
  refine Bo rfl .n ?_
  intro w1 hS
  have hS:=(hS.perm (Ax.perm (.c .h (.c .h .n)))).A3
  exact⟨_,⟨_,rfl,by assumption,by assumption,rfl⟩,hS⟩
 refine Aa ?_
 refine Bo rfl .n ?_
 intro w1 hS
 have hS:=hS.Cr 5 1
 have hS:=(hS.perm (Ax.perm (.c (.t .h) (.c .h .n)))).A3
 exact⟨_,⟨_,rfl,Hd.VE,rfl,rfl⟩,hS⟩
theorem Jq (s:As)(hs:s.length≤70368744000000)(w:World):Ee Tryz.prog 158 #[BW s,BW [255],BW [255,255], .int .i64 (-1)] w fun v w'=>v=BW (Page.escape s)∧B9 w w':=by
 have hcl:=List.count_le_length (a:=(255:UInt8)) (l:=s)
 refine Ao [] [] Tryz.func158 rfl rfl rfl (St.start w []) ?_
 refine Gs (Ga rfl (Gn (.t4 0 1 2 3) (CH (Gm rfl (Gm rfl (Gt (Bv rfl rfl) (Gm rfl ?_)))))))
 refine Bf 19 rfl rfl (fun q=>AD rfl) (Bf 19 rfl rfl (fun q=>Ai (cF rfl q) rfl) ?_)
 refine Gt (BU rfl rfl (fun h=>by rw [h];rfl)) ?_
 refine Gn (.t5 0 1 2 3 22) ?_
 refine EK rfl (by simp) ?_
 refine Aa ?_
 refine AB (.t4 0 1 2 3) ?_
 refine AA (CH (Gm rfl (Gm rfl ?_)))
 refine BE rfl Zy (.c rfl (.c rfl .n)) (fun w hS=>Hu _ 255 w) ?_
 refine Ga rfl (Gn (.t5 0 1 2 3 9) (Gs (Gm rfl (Gt (Ai rfl rfl) (Gn (.t6 0 1 2 3 9 28) ?_)))))
 refine Gc (fun c1=>?_) (fun c1=>?_)
 ·
  have c1p:=kz c1
  refine Gs (Gm rfl (Ga rfl (Gn (.t1 8) (Ae (AE ?_)))))
  refine AZ rfl (.tmp rfl .n) ?_
  intro w1 hS;refine⟨?_,hS.Al⟩;have e:s.count 255=0:=by simp at c1;omega
  rw [Page.NM _ e];rfl
 have c1p:=kz c1
 refine Gs (Gm rfl (Gt (BC rfl rfl) (Gm rfl (Bf 32 rfl rfl (fun q=>AD rfl) (Bf 32 rfl rfl (fun q=>AD rfl) (Bf 32 rfl rfl (fun q=>BC (cF rfl q) (cF rfl q)) ?_))))))
 refine Gt (BU rfl rfl (fun h=>by rw [h];rfl)) ?_
 refine Gn (.t6 0 1 2 3 9 36) ?_
 refine HG rfl rfl ?_
 refine AK (Gm rfl (Ga rfl (Gn (.t4 0 1 2 3) (Gs ?_))))
 refine A6 rfl Ui rfl (fun b1=>?_)
 refine Df DV 5 1 ?_
 refine AT (AA (Gs (Gm rfl (Gt (BO rfl Tryz.underlying9 rfl) (Gm rfl (Gm rfl (Gt (BO rfl Tryz.underlying9 rfl) ?_)))))))
 refine Gm rfl (Gt (BO rfl Tryz.underlying9 rfl) ?_)
 refine Gt (Fi rfl rfl (IntWalk.i64_in _ (by(try simp only [List.length_cons,List.length_nil]);omega))) ?_
 refine Gt (YU rfl rfl (IntWalk.i64_in _ (by(try simp only [List.length_cons,List.length_nil]);omega))) ?_
 refine Gt (Ay rfl rfl (IntWalk.i64_in _ (by(try simp only [List.length_cons,List.length_nil]);omega))) ?_
 refine Ah rfl cO (.c rfl (.c rfl .n)) (.c (.t .h) .n) (H3 _ _ (by simp only [List.length_cons,List.length_nil];omega) (by simp only [List.length_cons,List.length_nil];omega)) (fun v1 B hv=>?_)
 obtain⟨y2,rfl,y3,y4,rfl⟩:=hv
 refine Gn (.t5 0 1 2 3 10) (Gs (Ga rfl (AT (AA (CH (Gm rfl (Gt (BO rfl Tryz.underlying9 rfl) ?_)))))))
 refine Gt (Cn rfl rfl) (Gn (.t7 0 1 2 3 10 11 51) ?_)
 refine HG rfl (by simp) ?_
 refine Gs (Gm rfl (Gm rfl (Gn (.t7 0 1 2 10 11 52 53) (Ak ?_))))
 refine Bt (.t7 11 53 0 1 2 10 52) ?_
 refine BZ (.t .h) ?_
 refine BZ (.t .h) ?_
 refine S1 (fun(k:Int) (start:Int) (x:As) (p:Option Addr) (h:Hd)=>Page.RP s (s.count 255) k start x∧(p=none∨p=some ⟨b1,0,none⟩)∧h.Z∧h.len=x.length) (fun(k:Int) (start:Int) (x:As) (p:Option Addr) (h:Hd)=>((s.count 255:Int) - k).toNat) (fun(k:Int) (start:Int) (x:As) (p:Option Addr) (h:Hd)=> [(11, .int .i64 start),(53, .int .i64 k)]) (fun(k:Int) (start:Int) (x:As) (p:Option Addr) (h:Hd)=> [Af.box b1 107 (Db.enc ⟨p,h⟩),Af.own h 5 1 (x.flatMap DV)]) (0) (0) ([]) (_) (_) ?_ rfl rfl (fun k start x p h hI1=>?_)
 · exact⟨Page.RP.start rfl, .inr rfl,by assumption,by assumption⟩
 obtain⟨hI11,hp,hz,hl⟩:=hI1;have hk0:=hI11.k0;have hs0:=hI11.s0;have hs1:=hI11.s1;have hxl:=hI11.xl
 refine Gs (Gt (BC rfl rfl) (AT (AA (Au ?_))))
 refine Gc (fun c2=>?_) (fun c2=>?_)
 ·
  have c2p:=kz c2
  obtain⟨i,hi,hlt,hR⟩:=hI11.idx (by omega)
  rw [← hi] at hR hlt
  refine Aa ?_
  refine AB (.t7 0 1 2 10 11 52 53) ?_
  refine AA (Au (Ak (Gs (Gm rfl (Gm rfl (Gm rfl ?_))))))
  refine Gt (Gy Tryz.underlying9 rfl rfl (by(try simp only [List.length_cons,List.length_nil]);omega) (by(try simp only [List.length_cons,List.length_nil]);omega)) ?_
  refine Gm rfl ?_
  refine BE rfl YR (.c rfl (.c rfl .n)) (fun w hS=>Fg _ 255 w) ?_
  refine Gt (Ay rfl rfl (IntWalk.i64_in _ (by(try simp only [List.length_cons,List.length_nil]);omega))) ?_
  refine Ga rfl (Gn (.t8 0 1 2 10 11 12 52 53) (Gs (Gm rfl (Gm rfl (Gm rfl ?_)))))
  refine Gt (Zi Tryz.underlying9 rfl rfl rfl (by(try simp only [List.length_cons,List.length_nil]);omega) (by(try simp only [List.length_cons,List.length_nil]);omega) (by(try simp only [List.length_cons,List.length_nil]);omega)) ?_
  refine Ah rfl Pp (.c rfl (.c rfl .n)) (.c .h (.c .h .n)) (BR _ _ _ _ (by assumption) (by assumption) (by assumption) _ (by(try simp only [List.length_drop,List.length_take,List.length_append,List.length_cons,List.length_nil]);omega)) (fun v6 B hv=>?_)
  obtain⟨y7,y8,rfl,y9,y10,y11,rfl⟩:=hv
  refine Gn (.t7 0 1 2 10 12 52 53) (Gs (Gm rfl ?_))
  refine Ah rfl Pp (.c rfl (.c rfl .n)) (.c .h (.c .h .n)) (BR _ _ _ _ (by assumption) (by assumption) (by assumption) _ (by(try simp only [List.length_drop,List.length_take,List.length_append,List.length_cons,List.length_nil]);omega)) (fun v12 B hv=>?_)
  obtain⟨y13,y14,rfl,y15,y16,y17,rfl⟩:=hv
  refine Gn (.t7 0 1 2 10 12 52 53) (AK (Gm rfl (Gm rfl (Gt (BO rfl Tryz.underlying9 rfl) ?_))))
  refine Gt (Ay rfl rfl (IntWalk.i64_in _ (by(try simp only [List.length_cons,List.length_nil]);omega))) ?_
  refine Ga rfl ?_
  refine AT (AB (.t7 0 1 2 10 11 52 53) ?_)
  refine AW (AA (AK ?_))
  refine Gt (Ay rfl rfl (IntWalk.i64_in _ (by(try simp only [List.length_cons,List.length_nil]);omega))) ?_
  refine Gm rfl ?_
  refine AT (AB (.t7 0 1 2 10 11 52 53) ?_)
  refine KS (k+1) _ _ _ _ ?_ ?_ (.t7 11 53 0 1 2 10 52) (.refl _)
  · exact⟨hR,by assumption,by assumption,by assumption⟩
  · omega
 have c2p:=kz c2
 refine Bl (AY (AY (Am ?_)))
 refine AB (.t3 0 10 11) ?_
 refine AA (Gs (Gm rfl (Gm rfl ?_)))
 refine Gt (Gy Tryz.underlying9 rfl rfl (by(try simp only [List.length_cons,List.length_nil]);omega) (by(try simp only [List.length_cons,List.length_nil]);omega)) ?_
 refine Ah rfl Pp (.c rfl (.c rfl .n)) (.c .h (.c .h .n)) (BR _ _ _ _ (by assumption) (by assumption) (by assumption) _ (by(try simp only [List.length_drop,List.length_take,List.length_append,List.length_cons,List.length_nil]);omega)) (fun v18 B hv=>?_)
 obtain⟨y19,y20,rfl,y21,y22,y23,rfl⟩:=hv
 refine Gn (.t1 10) (Gs ?_)
 refine Ah rfl Zg (.c rfl .n) (.c .h (.c .h .n)) (Cy _ _ _ _ (by assumption) (by assumption) (by(try simp only [List.length_append,List.length_drop]);omega)) (fun v24 B hv=>?_)
 obtain⟨rfl,rfl⟩:=hv
 refine Ga rfl (Gn (.t1 8) (Ae ?_))
 refine AZ rfl (.tmp rfl .n) ?_
 intro w1 hS;refine⟨?_,hS.Al⟩;rw [← hI11.done (by omega)];rfl
theorem Iu (s:As)(hs:s.length≤70368744000000)(w:World):Ee Tryz.prog 126 #[BW s,BW [255],BW [255,255]] w fun v w'=>v=BW (Page.escape s)∧B9 w w':=by
 refine Ao [] [] Tryz.func126 rfl rfl rfl (St.start w []) ?_
 refine Gs (Ga rfl (Gn (.t3 0 1 2) (Gs (Gm rfl (Gm rfl (Gm rfl ?_))))))
 refine BE rfl dP (.c rfl (.c rfl (.c rfl (.c rfl .n)))) (fun w hS=>Jq _ (by first | assumption | omega) w) ?_
 refine Ga rfl (Gn (.t1 6) (Ae ?_))
 refine AZ rfl (.tmp rfl .n) ?_
 intro w1 hS;refine⟨?_,hS.Al⟩;rfl
theorem K8 (s:As)(hs:s.length≤70368744000000)(w:World):Ee Tryz.prog 98 #[BW s] w fun v w'=>v=BW (Page.escape s)∧B9 w w':=by
 refine Ao [] [] Tryz.func98 rfl rfl rfl (St.start w []) ?_
 refine Gs (Ga rfl (Gn (.t1 0) (Gs (Gm rfl ?_))))
 refine BE rfl dD (.c rfl (.c rfl (.c rfl .n))) (fun w hS=>Iu _ (by first | assumption | omega) w) ?_
 refine Ga rfl (Gn (.t1 2) (Ae ?_))
 refine AZ rfl (.tmp rfl .n) ?_
 intro w1 hS;refine⟨?_,hS.Al⟩;rfl
theorem NT {t0:Nat}(p:Aw)(qs:List As)(top:Int)(hs:∀ s∈qs,s.length≤70368744000000):Fx Tryz.prog 83 #[.agg p.enc.toArray, .int .i64 top] [] (fun w=>Rd w p.wait t0 1 (qs.flatMap A9)∧p.wait.len≤p.wait.cap) (fun v B=>((!Page.Bk p || decide (top < 0) || decide (200 < top))=true∧v = .tuple #[.agg p.enc.toArray, .int .i64 2]∧B = [])∨((!Page.Bk p || decide (top < 0) || decide (200 < top))=false∧∃(T:Nat) (h' g:Hd) (zs:List As),v = .tuple #[.agg (Aw.enc ⟨h',(Page.BQ top qs (Page.of p)).1.shown,(Page.BQ top qs (Page.of p)).1.Bq,(Page.BQ top qs (Page.of p)).1.ring,(Page.BQ top qs (Page.of p)).1.cut⟩).toArray, .int .i64 0]∧h'.len=(Page.BQ top qs (Page.of p)).2.length∧bg T h' (Page.BQ top qs (Page.of p)).2 t0 p.wait qs 9 g zs∧B = [Af.own g 9 1 (zs.flatMap A9)])):=by
 intro w hS0 hH
 obtain⟨r0,k0⟩:=hH
 have hl0:=r0.K5 DZ (by decide)
 refine Ao _ _ Tryz.func83 rfl rfl rfl (hS0) ?_
 refine Gs ?_
 refine B4 rfl rfl rfl (fun b1=>?_)
 refine A6 rfl UL rfl (fun b2=>?_)
 refine Ga rfl (Gn (.t3 1 2 4) (CH (Gt (AU rfl Cv .m1 (AQ.id Aw.fl.len Aw.fl.one) rfl) ?_)))
 refine BE rfl bZ (.c rfl .n) (fun w hS=>G9 _ w) ?_
 refine Gt (BX rfl) (Gm rfl (Bf 10 rfl rfl (fun q=>AD rfl) (Bf 10 rfl rfl (fun q=>BC (cF rfl q) rfl) ?_)))
 refine Gt (BU rfl rfl (fun h=>by rw [h];rfl)) ?_
 refine Gm rfl (Bf 14 rfl rfl (fun q=>AD rfl) (Bf 14 rfl rfl (fun q=>Cn (cF rfl q) rfl) ?_))
 refine Gt (BU rfl rfl (fun h=>by rw [h];rfl)) ?_
 refine Gn (.t4 1 2 4 17) ?_
 refine Gc (fun c1=>?_) (fun c1=>?_)
 ·
  refine Gs (Gt (AU rfl Cv .m1 (AQ.id Aw.fl.len Aw.fl.one) rfl) ?_)
  refine AO (AJ (AQ.id Aw.fl.len Aw.fl.one) rfl rfl rfl Fb rfl .h) ?_
  refine Ga rfl (Gn (.t2 4 5) (Ae (AE ?_)))
  refine AZ rfl (.cell rfl .m0 (.inl ⟨(by rw [Aw.fl.len];exact Cv),rfl⟩) (.tmp rfl .n)) ?_
  intro w1 hS
  have hS:=(hS.perm (Ax.perm .n)).A3
  exact⟨_, .inl ⟨c1,rfl,rfl⟩,hS⟩
 have c1p:=kz c1
 have hgd:Page.Bk p=true∧0≤top∧top≤200:=by simp at c1;exact⟨c1.1.1,by omega,by omega⟩
 refine Aa ?_
 refine AB (.t3 1 2 4) ?_
 refine AA (Au (Ak ?_))
 refine Bt (.t3 1 2 4) ?_
 refine FE A9 9 1 ?_
 refine BZ (.t (.t .h)) ?_
 refine BZ (.t .h) ?_
 refine XT (fun(rest:List As) (sh:Int) (ak:Bool) (ring:As) (ct:Bool) (T:Nat) (hx:Hd) (g:Hd) (zs:List As)=>Page.FI top qs (Page.of p) rest hx ⟨sh,ak,ring,ct⟩∧bg T hx rest t0 p.wait qs 9 g zs) (fun(rest:List As) (sh:Int) (ak:Bool) (ring:As) (ct:Bool) (T:Nat) (hx:Hd) (g:Hd) (zs:List As)=>rest.length) (fun(rest:List As) (sh:Int) (ak:Bool) (ring:As) (ct:Bool) (T:Nat) (hx:Hd) (g:Hd) (zs:List As)=> []) (fun(rest:List As) (sh:Int) (ak:Bool) (ring:As) (ct:Bool) (T:Nat) (hx:Hd) (g:Hd) (zs:List As)=> [Af.own g 9 1 (zs.flatMap A9),Af.box b1 65 (Aw.enc ⟨hx,sh,ak,ring,ct⟩)]) (qs) (p.shown) (p.Bq) (p.ring) (p.cut) (t0) (p.wait) (_) (_) ?_ rfl rfl (fun rest sh ak ring ct T hx g zs hI1=>?_)
 · exact⟨Page.FI.start hgd.1 hl0 hs, .inl ⟨rfl,rfl,rfl,rfl,rfl⟩⟩
 obtain⟨hI11,hor⟩:=hI1;have hl:=hI11.hl;have hn:=hI11.n;have hr:=hI11.ring;have hs0:=hI11.s0;have hs1:=hI11.s1;dsimp only at hr hs0 hs1
 refine CH (Gt (Aj HA rfl) (Gt (AG rfl Ej .m1 Aw.l0 rfl rfl) (Gt (Av rfl Tryz.underlying52 rfl) (Gt (Cn rfl rfl) (Gm rfl (Bg 23 rfl rfl (fun q=>Aj M1 rfl) (Bg 23 rfl rfl (fun q=>AG (Bc rfl q) DM .m1 Aw.l2 rfl rfl) ?_)))))))
 refine Bg 23 rfl rfl (fun q=>BX (Bc rfl q)) (Gt (BM rfl rfl (fun h=>h)) (Gm rfl (Bg 28 rfl rfl (fun q=>Aj JI rfl) (Bg 28 rfl rfl (fun q=>AG (Bc rfl q) DM .m1 Aw.l4 rfl rfl) (Bg 28 rfl rfl (fun q=>BX (Bc rfl q)) (Gt (BM rfl rfl (fun h=>h)) (Gn (.t4 1 2 4 32) ?_)))))))
 refine Gc (fun c2=>?_) (fun c2=>?_)
 ·
  have c2p:=kz c2
  have hc3:0 < rest.length∧ak=false∧ct=false:=by simp at c2;exact⟨by omega,c2.1.2,c2.2⟩
  obtain⟨hc0,hak,hct⟩:=hc3
  obtain⟨q,r,rfl⟩:=Bj.VA (qs:=rest) (by omega)
  refine Aa ?_
  refine AB (.t3 1 2 4) ?_
  refine AA (Ak (CH (Gm rfl (Gt (Cn rfl rfl) (Gm rfl (Bg 35 rfl rfl (fun q=>Aj KC rfl) (Bg 35 rfl rfl (fun q=>AG (Bc rfl q) A5 .m1 Aw.l1 rfl rfl) ?_)))))))
  refine Bg 35 rfl rfl (fun q=>AD rfl) (Bg 35 rfl rfl (fun q=>CO (Bc rfl q) (Bc rfl q)) (Gt (BM rfl rfl (fun h=>h)) (Gn (.t4 1 2 4 40) ?_)))
  refine Gc (fun c3=>?_) (fun c3=>?_)
  ·
   have c3p:=kz c3
   refine Gs (Gt (Aj M1 rfl) ?_)
   refine AO (AJ Aw.l2 rfl rfl rfl Ks rfl (.t .h)) ?_
   refine Gn (.t2 2 4) (Gs (Gt (AU rfl Cv .m1 (AQ.id Aw.fl.len Aw.fl.one) rfl) ?_))
   refine BE rfl W5 (.c rfl (.c rfl .n)) (fun w hS=>EW _ _ (by first | omega | (have h1:=Page.Ht ((q :: r).getD (0:Int).toNat []);have h2:=hI11.len ((q :: r).getD (0:Int).toNat []) (by simp);simp only [List.length_append,List.length_cons,List.length_nil] at *;omega)) w) ?_
   refine Gm rfl (Gt (AM rfl rfl) (Gt (AM rfl rfl) ?_))
   refine AO (AJ (AQ.id Aw.fl.len Aw.fl.one) rfl rfl rfl Fb rfl (.t .h)) ?_
   refine Gn (.t2 2 4) (Bl (AY ?_))
   refine KR rfl ?_
   refine AY (Am (AA (Gs (Gt (AU rfl Cv .m1 (AQ.id Aw.fl.len Aw.fl.one) rfl) ?_))))
   refine AO (AJ (AQ.id Aw.fl.len Aw.fl.one) rfl rfl rfl Fb rfl (.t (.t .h))) ?_
   refine Ga rfl (Gn (.t2 4 5) (Ae ?_))
   refine AZ rfl (.cell rfl .m2 (.inl ⟨(by rw [Aw.fl.len];exact Cv),rfl⟩) (.tmp rfl .n)) ?_
   intro w1 hS
   have hS:=(hS.perm (Ax.perm (.c .h .n))).A3
   have e:=hI11.asks hak hct c3
   exact⟨_, .inr ⟨c1,T,hx,g,zs,(by first | (rw [e];done) | (rw [e];rfl)),(by rw [e];exact hI11.hl),(by rw [e];exact hor),rfl⟩,hS⟩
  have c3p:=kz c3
  refine Aa ?_
  refine AB (.t3 1 2 4) ?_
  refine AA (Gs (Gt (Aj HA rfl) (Gt (AG rfl Ej .m1 Aw.l0 rfl rfl) ?_)))
  refine Gt (Bs Ir (by decide) (aS hor (Kn.HJ r0) (Kn.own .m0)) rfl rfl (by omega) (by omega)) ?_
  refine Gt (DO rfl CK (aS hor (Kn.HJ r0) (Kn.own .m0)) (by simp)) ?_
  refine Ga rfl (Gn (.t4 1 2 4 6) (Gs (Gt (Aj HA rfl) (Gt (AG rfl Ej .m1 Aw.l0 rfl rfl) ?_))))
  refine Gt (Sn Tryz.underlying52 Et rfl rfl (by decide) (by first | omega | (have h1:=Page.Ht ((q :: r).getD (0:Int).toNat []);have h2:=hI11.len ((q :: r).getD (0:Int).toNat []) (by simp);simp only [List.length_append,List.length_cons,List.length_nil] at *;omega))) ?_
  refine BB rfl WU (.c rfl .n) .n (B1 _ r (by simp only [List.length_cons] at *;omega)) (fun w hS=>by have h:=(Kn.cut (l:=1) (r:=hx.len) DZ (aS hor (Kn.HJ r0) (Kn.own .m0)) (by omega) (Nat.le_refl _) (dU hor (WY.of k0) (WY.own .m0))) w hS;rw [show(((q :: r).take hx.len).drop 1)=r from by rw [List.take_of_length_le (by simp only [List.length_cons] at *;omega)];rfl] at h;exact h) (fun v2 B hv=>?_)
  obtain⟨y3,rfl,y4,rfl⟩:=hv
  refine Gt (Aj HA rfl) ?_
  refine AO (AJ Aw.l0 rfl rfl rfl MY rfl (.t (.t .h))) ?_
  refine Gn (.t4 1 2 4 6) (Gs (Gt (Aj KC rfl) (Gt (AG rfl A5 .m2 Aw.l1 rfl rfl) ?_)))
  refine Gt (Ay rfl rfl (IntWalk.i64_in _ (by first | omega | (have h1:=Page.Ht ((q :: r).getD (0:Int).toNat []);have h2:=hI11.len ((q :: r).getD (0:Int).toNat []) (by simp);simp only [List.length_append,List.length_cons,List.length_nil] at *;omega)))) ?_
  refine Gt (Ki rfl rfl) (Gt (Aj KC rfl) ?_)
  refine AO (AJ Aw.l1 rfl rfl rfl DJ rfl (.t (.t .h))) ?_
  refine Gn (.t4 1 2 4 6) ?_
  refine BN (N:=9) [0,0,2,6,15,31,63,63,127] mix (by kernel_rfl) rfl ?_
  refine Pf 0 rfl (AU rfl Cv .m2 (AQ.id Aw.fl.len Aw.fl.one) rfl) (Pf 1 rfl (AD rfl) ?_)
  refine Bh 2 rfl rfl (by kernel_rfl) (Lv (K3 (EB eA (.c rfl .n) (fun w hS=>K8 _ (hI11.len _ (by simp)) w)))) ?_
  refine Pf 3 rfl (CZ rfl rfl (by first | omega | (have h1:=Page.Ht ((q :: r).getD (0:Int).toNat []);have h2:=hI11.len ((q :: r).getD (0:Int).toNat []) (by simp);simp only [List.length_append,List.length_cons,List.length_nil] at *;omega))) ?_
  refine Bh 4 rfl rfl (by kernel_rfl) (Lv (K3 (EB W5 (.c rfl (.c rfl .n)) (fun w hS=>EW _ _ (by first | omega | (have h1:=Page.Ht ((q :: r).getD (0:Int).toNat []);have h2:=hI11.len ((q :: r).getD (0:Int).toNat []) (by simp);simp only [List.length_append,List.length_cons,List.length_nil] at *;omega)) w)))) ?_
  refine Pf 5 rfl (AD rfl) (Pf 6 rfl (AM rfl rfl) (Pf 7 rfl (AM rfl rfl) ?_))
  refine Ab 8 rfl (by kernel_rfl) ?_
  refine AO (AJ (AQ.id Aw.fl.len Aw.fl.one) rfl rfl rfl Fb rfl (.t (.t .h))) ?_
  refine A7 rfl ⟨?_,?_⟩
  · exact(Po rfl (AM rfl rfl) rfl rfl (Pk (Pk (Pk (Pk (Pk (Pk (Pk Ac))))))))
  refine Az (by kernel_rfl) ?_
  refine AB (.t3 1 2 4) ?_
  refine AW ?_
  refine Bx (.c .h (.c (.t .h) (.c (.t .h) .n))) ?_
  refine B3 ?_
  refine Vb (r) _ _ _ _ (9) _ _ (r) ?_ ?_ (.t3 1 2 4) (.refl _)
  · exact⟨hI11.next hak hct c3 (by assumption) rfl, .inr ⟨rfl,rfl,rfl⟩⟩
  · simp only [List.length_cons];omega
 refine Bl (AY (AY (Am ?_)))
 refine AB (.t2 2 4) ?_
 refine AA (Gs (Gt (AU rfl Cv .m1 (AQ.id Aw.fl.len Aw.fl.one) rfl) ?_))
 refine AO (AJ (AQ.id Aw.fl.len Aw.fl.one) rfl rfl rfl Fb rfl (.t (.t .h))) ?_
 refine Ga rfl (Gn (.t2 4 5) (Ae ?_))
 refine AZ rfl (.cell rfl .m2 (.inl ⟨(by rw [Aw.fl.len];exact Cv),rfl⟩) (.tmp rfl .n)) ?_
 intro w1 hS
 have hS:=(hS.perm (Ax.perm (.c .h .n))).A3
 have e:=hI11.bp c2
 exact⟨_, .inr ⟨c1,T,hx,g,zs,(by first | (rw [e];done) | (rw [e];rfl)),(by rw [e];exact hI11.hl),(by rw [e];exact hor),rfl⟩,hS⟩
theorem D2 (b:Nat)(V:AL)(ls:Vector BI 4)(ev:List Ing.Event)(n m:Nat)(hF:AH.Fit (A4 V ls ev) n m)(hn:n≤600000)(hm:m≤600000):Fx Tryz.prog 65 #[.pointer (some ⟨b,0,none⟩)] [Af.box b 101 (AL.enc V),Af.D0 (CJ 9 (AL.Ar V) ls),Af.own (AL.last V) 56 16 ((ev).flatMap Ing.Event.enc)] (fun w=>(GV 2 GO w∧2 ∉ Cp [Af.box b 101 (AL.enc V),Af.D0 (CJ 9 (AL.Ar V) ls),Af.own (AL.last V) 56 16 ((ev).flatMap Ing.Event.enc)])∧(GV 0 AI.DT w∧0 ∉ Cp [Af.box b 101 (AL.enc V),Af.D0 (CJ 9 (AL.Ar V) ls),Af.own (AL.last V) 56 16 ((ev).flatMap Ing.Event.enc)])∧(HI 7 w∧7 ∉ Cp [Af.box b 101 (AL.enc V),Af.D0 (CJ 9 (AL.Ar V) ls),Af.own (AL.last V) 56 16 ((ev).flatMap Ing.Event.enc)])∧(HI 8 w∧8 ∉ Cp [Af.box b 101 (AL.enc V),Af.D0 (CJ 9 (AL.Ar V) ls),Af.own (AL.last V) 56 16 ((ev).flatMap Ing.Event.enc)])) (fun v B=>∃ V' ls' ev',v = .tuple #[]∧A4 V' ls' ev'=AH.BQ (A4 V ls ev)∧B = [Af.box b 101 (AL.enc V'),Af.D0 (CJ 9 (AL.Ar V') ls'),Af.own (AL.last V') 56 16 ((ev').flatMap Ing.Event.enc)]):=by
 intro w hS0 hH
 obtain⟨⟨gl0,gm0⟩,⟨gl1,gm1⟩,⟨gl2,gm2⟩,⟨gl3,gm3⟩⟩:=hH
 refine Ao _ _ Tryz.func65 rfl rfl rfl (hS0) ?_
 refine Gs (Gm rfl (AT (AA (Ak ?_))))
 refine Bt (.t2 5 0) ?_
 refine BZ (.t (.t .h)) ?_
 refine BZ (.t (.t .h)) ?_
 refine BZ (.t (.t .h)) ?_
 refine JA (fun(k:Int) (V1:AL) (ls1:Vector BI 4) (ev1:List Ing.Event)=>0≤k∧k≤5∧(A4 V ls ev).BQ=(A4 V1 ls1 ev1).Hg (5 - k).toNat∧AH.Fit (A4 V1 ls1 ev1) (n+44 * k.toNat) (m+44 * k.toNat)) (fun(k:Int) (V1:AL) (ls1:Vector BI 4) (ev1:List Ing.Event)=>(5 - k).toNat) (fun(k:Int) (V1:AL) (ls1:Vector BI 4) (ev1:List Ing.Event)=> [(5, .int .i64 k)]) (fun(k:Int) (V1:AL) (ls1:Vector BI 4) (ev1:List Ing.Event)=> [Af.box b 101 (AL.enc V1),Af.D0 (CJ 9 (AL.Ar V1) ls1),Af.own (AL.last V1) 56 16 (ev1.flatMap Ing.Event.enc)]) (0) (V) (ls) (ev) ?_ rfl rfl (fun k V1 ls1 ev1 hI1=>?_)
 · exact⟨by omega,by omega,rfl,hF⟩
 obtain⟨hI11,hI12,hI13,hI14⟩:=hI1
 refine Gs (Gt (BC rfl rfl) (AT (AA (Au ?_))))
 refine Gc (fun c1=>?_) (fun c1=>?_)
 ·
  have c1p:=kz c1
  refine Aa ?_
  refine AB (.t2 0 5) ?_
  refine AA (Au (Ak (Gs (Ga rfl (AT (AA (CH ?_)))))))
  refine Gm rfl (AT (AA (Ak ?_)))
  refine Bt (.t4 2 7 0 5) ?_
  refine BZ (.t (.t .h)) ?_
  refine BZ (.t (.t .h)) ?_
  refine BZ (.t (.t .h)) ?_
  refine S1 (fun(i:Int) (V2:AL) (ls2:Vector BI 4) (ev2:List Ing.Event) (c:Bool)=>0≤i∧i≤4∧((A4 V2 ls2 ev2),c)=(A4 V1 ls1 ev1).Ci i.toNat) (fun(i:Int) (V2:AL) (ls2:Vector BI 4) (ev2:List Ing.Event) (c:Bool)=>(4 - i).toNat) (fun(i:Int) (V2:AL) (ls2:Vector BI 4) (ev2:List Ing.Event) (c:Bool)=> [(2, .bool c),(7, .int .i64 i)]) (fun(i:Int) (V2:AL) (ls2:Vector BI 4) (ev2:List Ing.Event) (c:Bool)=> [Af.box b 101 (AL.enc V2),Af.D0 (CJ 9 (AL.Ar V2) ls2),Af.own (AL.last V2) 56 16 (ev2.flatMap Ing.Event.enc)]) (0) (V1) (ls1) (ev1) (false) ?_ rfl rfl (fun i V2 ls2 ev2 c hI2=>?_)
  · exact⟨by omega,by omega,rfl⟩
  obtain⟨hI21,hI22,hI23⟩:=hI2
  refine Gs (Gt (BC rfl rfl) (AT (AA (Au ?_))))
  refine Gc (fun c2=>?_) (fun c2=>?_)
  ·
   have c2p:=kz c2
   have hi:0≤i∧i < 4:=⟨by omega,by omega⟩
   have hF2:=QR hI14 hi.1 (by omega) hI23
   refine Aa ?_
   refine AB (.t4 0 2 5 7) ?_
   refine AA (Au (Ak (Gs (Gm rfl (Ga rfl (Gn (.t5 0 2 3 5 7) (Gs ?_)))))))
   refine Gm rfl (Gm rfl (Gt (Ba rfl) (Gt (Aj F4 rfl) ?_)))
   refine Gt (AV Oi rfl rfl (by first | omega | exact hi.1 | exact hi.2) (by first | omega | exact hi.1 | exact hi.2)) ?_
   refine Ga rfl (Gn (.t5 0 2 4 5 7) (CH (Gm rfl (Gt (Ba rfl) (Gt (Aj JV rfl) ?_)))))
   refine Gt (AG rfl A5 .m0 ((AL.l1.comp (AQ.ar (n:=4) A2.fl (by first | omega | exact hi))).comp A2.l0) rfl rfl) ?_
   refine Gt (Ai rfl rfl) (Gn (.t6 0 2 4 5 7 19) ?_)
   refine Gc (fun c3=>?_) (fun c3=>?_)
   ·
    have c3p:=kz c3
    refine Bl (AY (Am ?_))
    refine AB (.t4 0 2 5 7) ?_
    refine AA (AK ?_)
    refine Gt (Ay rfl rfl (IntWalk.i64_in _ (by first | omega | exact hi.1 | exact hi.2))) ?_
    refine Gm rfl ?_
    refine AT (AB (.t4 0 2 5 7) ?_)
    refine KS (i+1) _ _ _ _ ?_ ?_ (.t4 2 7 0 5) (.refl _)
    · exact⟨by omega,by omega,((LS hi.1 hi.2 hI23).trans (BJ c3)).symm⟩
    · omega
   have c3p:=kz c3
   refine Aa ?_
   refine AB (.t5 0 2 4 5 7) ?_
   refine AA ?_
   refine BZ (.t (.t .h)) ?_
   refine BZ (.t (.t .h)) ?_
   refine BZ (.t (.t .h)) ?_
   refine Rc (Lm:= [_,_,_]) (fun(V3:AL) (ls3:Vector BI 4)=>(A4 V3 ls3 ev2)=(A4 V2 ls2 ev2).set i ((A4 V2 ls2 ev2).at_ i).BQ) (fun(V3:AL) (ls3:Vector BI 4)=> []) (fun(V3:AL) (ls3:Vector BI 4)=> [Af.box b 101 (AL.enc V3),Af.D0 (CJ 9 (AL.Ar V3) ls3),Af.own (AL.last V3) 56 16 (ev2.flatMap Ing.Event.enc)]) (.t5 0 2 4 5 7) rfl ?_ (fun V3 ls3 hC=>?_)
   ·
    refine FJ (k:=i) hi.1 hi.2 (fun sv sl hsv hlv hln=>?_)
    refine BN (N:=17) [0,0,2,6,14,0,32,96,224,480,1022,2046,4094,4094,8191,24575,57343] mix (by kernel_rfl) rfl ?_
    refine Pf 0 rfl (AD rfl) (Pf 1 rfl (AD rfl) (Pf 2 rfl (Ba rfl) (Pf 3 rfl (Aj Dt rfl) (Pf 4 rfl (AU rfl Cv .m3 ((AQ.A8 V2 hi.1 hi.2).comp A2.l4) rfl) (Pf 5 rfl (AD rfl) (Pf 6 rfl (Ba rfl) (Pf 7 rfl (Aj Lc rfl) ?_)))))))
    refine Pf 8 rfl (Aj Ri rfl) (Pf 9 rfl (AG rfl A5 .m3 (((AQ.A8 V2 hi.1 hi.2).comp A2.l2).comp AR.l5) rfl rfl) ?_)
    refine Ab 10 rfl (by kernel_rfl) ?_
    refine BB rfl eU (.c rfl (.c rfl .n)) .n (NT _ _ _ (by rw [← hlv];exact Xn hF2 hi.1 hi.2)) (fun w hS=>⟨(Kn.own .m1) w hS,(WY.own .m1) w hS⟩) (fun v1 B hv=>?_)
    rcases hv with ⟨y2,rfl,rfl⟩ | ⟨y3,y4,y5,y6,y7,rfl,y8,y9,rfl⟩
    ·
     refine BH rfl ⟨?_,?_⟩
     · exact(Pk (Pk (Pk (Pk (Pk (Pk (Pk (Pk (Pk (Po rfl (AD rfl) rfl rfl Ac))))))))))
     refine Pf 11 rfl (AD rfl) (Pf 12 rfl (AM rfl rfl) (Pf 13 rfl (AM rfl rfl) (Pf 14 rfl (Ba rfl) (Pf 15 rfl (Aj Dt rfl) ?_))))
     refine Ab 16 rfl (by kernel_rfl) ?_
     refine AO (AJ ((AQ.A8 V2 hi.1 hi.2).comp A2.l4) rfl rfl rfl Fb rfl (.t (.t (.t .h)))) ?_
     refine A7 rfl ⟨?_,?_⟩
     · exact(Pk (Pk (Po rfl (AM rfl rfl) rfl rfl (Pk (Pk (Pk (Pk (Pk (Pk (Pk (Pk (Pk (Pk (Pk (Pk Ac)))))))))))))))
     refine Az (by kernel_rfl) ?_
     refine AB (.t5 0 2 4 5 7) ?_
     refine Bx (.c .h (.c .h (.c .h (.c .h (.c .h .n))))) ?_
     refine Rp hi.1 hi.2 (by rfl) (by rfl) (by rfl) ?_
     refine Ek _ _ ?_ (.t5 0 2 4 5 7) (.refl _)
     · exact Er hi.1 hi.2 hsv hlv (f:=Ad.BQ) (KM hln.2.1 y2)
    refine BH rfl ⟨?_,?_⟩
    · exact(Pk (Pk (Pk (Pk (Pk (Pk (Pk (Pk (Pk (Po rfl (AD rfl) rfl rfl Ac))))))))))
    refine Pf 11 rfl (AD rfl) (Pf 12 rfl (AM rfl rfl) (Pf 13 rfl (AM rfl rfl) (Pf 14 rfl (Ba rfl) (Pf 15 rfl (Aj Dt rfl) ?_))))
    refine Ab 16 rfl (by kernel_rfl) ?_
    refine AO (AJ ((AQ.A8 V2 hi.1 hi.2).comp A2.l4) rfl rfl rfl Fb rfl (.t (.t (.t (.t .h))))) ?_
    refine A7 rfl ⟨?_,?_⟩
    · exact(Pk (Pk (Po rfl (AM rfl rfl) rfl rfl (Pk (Pk (Pk (Pk (Pk (Pk (Pk (Pk (Pk (Pk (Pk (Pk Ac)))))))))))))))
    refine Az (by kernel_rfl) ?_
    refine AB (.t5 0 2 4 5 7) ?_
    refine Bx (.c .h (.c (.t .h) .n)) ?_
    refine dW y9 ?_
    refine Bx (.c (.t .h) (.c .h (.c .h (.c .h (.c .h .n))))) ?_
    refine Rp hi.1 hi.2 (by rfl) (by rfl) (by rfl) ?_
    refine Ek _ _ ?_ (.t5 0 2 4 5 7) (.refl _)
    · exact Er hi.1 hi.2 hsv hlv (f:=Ad.BQ) (Zo hln.2.1 y3 _)
   refine Gs (Gm rfl (Gt (Ba rfl) (Gt (Aj Dt rfl) (Gt (Aj JI rfl) ?_))))
   refine Gt (AG rfl DM .m0 (((AL.l1.comp (AQ.ar (n:=4) A2.fl (by first | omega | exact hi))).comp A2.l4).comp Aw.l4) rfl rfl) ?_
   refine Gn (.t6 0 2 4 5 7 40) ?_
   refine Gc (fun c4=>?_) (fun c4=>?_)
   ·
    have c4p:=kz c4
    refine Gs (Gm rfl (Gm rfl ?_))
    refine BB rfl ay (.c rfl (.c rfl .n)) (.c .h (.c .h (.c .h .n))) (Ii _ V3 ls3 ev2 i _ _ hi (by rw [hC];exact hF2.YE hi.1 hi.2) (by omega) (by omega)) (fun w hS=>⟨gl0.pull gm0 hS (.c .h (.c .h (.c .h .n))),gl1.pull gm1 hS (.c .h (.c .h (.c .h .n))),gl2.pull gm2 hS (.c .h (.c .h (.c .h .n))),gl3.pull gm3 hS (.c .h (.c .h (.c .h .n)))⟩) (fun v13 B hv=>?_)
    obtain⟨y14,y15,y16,rfl,y17,rfl⟩:=hv
    refine Gn (.t3 0 5 7) (AK (Ga rfl (AT (AW (AA (AK ?_))))))
    refine Gt (Ay rfl rfl (IntWalk.i64_in _ (by first | omega | exact hi.1 | exact hi.2))) ?_
    refine Gm rfl ?_
    refine AT (AB (.t4 0 2 5 7) ?_)
    refine KS (i+1) _ _ _ _ ?_ ?_ (.t4 2 7 0 5) (.refl _)
    · exact⟨by omega,by omega,(((LS hi.1 hi.2 hI23).trans ((AX c3).trans (BJ (show _=true from(VQ hi.1 hi.2 hC).symm.trans c4)))).trans (by rw [← hC,← y17])).symm⟩
    · omega
   have c4p:=kz c4
   refine Aa ?_
   refine AB (.t4 0 2 5 7) ?_
   refine AW (AA (AK ?_))
   refine Gt (Ay rfl rfl (IntWalk.i64_in _ (by first | omega | exact hi.1 | exact hi.2))) ?_
   refine Gm rfl ?_
   refine AT (AB (.t4 0 2 5 7) ?_)
   refine KS (i+1) _ _ _ _ ?_ ?_ (.t4 2 7 0 5) (.refl _)
   · exact⟨by omega,by omega,(((LS hi.1 hi.2 hI23).trans ((AX c3).trans (AX (show _=false from(VQ hi.1 hi.2 hC).symm.trans c4)))).trans (by rw [← hC])).symm⟩
   · omega
  have c2p:=kz c2
  obtain rfl:i=4:=by omega
  have hE:(A4 V1 ls1 ev1).Ci 4=((A4 V2 ls2 ev2),c):=hI23.symm
  refine Bl (AY (AY (Am ?_)))
  refine AB (.t3 0 2 5) ?_
  refine AA (Gs (Gm rfl (Gt (BX rfl) (Gn (.t3 0 5 46) ?_))))
  refine Gc (fun c5=>?_) (fun c5=>?_)
  ·
   have c5p:=kz c5
   refine Ae (AS (AE (AE (AS ?_))))
   refine AZ rfl .n ?_
   intro w1 hS
   have hS:=(hS.perm (Ax.perm (.c .h (.c .h (.c .h .n))))).A3
   refine⟨_,⟨V2,ls2,ev2,rfl,?ga1,rfl⟩,hS⟩
   case ga1=>exact(hI13.trans ((O8 hI11 (by omega)).trans ((BJ (show(!((A4 V1 ls1 ev1).Ci 4).2)=true by rw [hE];exact c5)).trans (by rw [hE])))).symm
  have c5p:=kz c5
  refine Aa ?_
  refine AB (.t2 0 5) ?_
  refine AW (AA (AK ?_))
  refine Gt (Ay rfl rfl (IntWalk.i64_in _ (by first | omega | exact hi.1 | exact hi.2))) ?_
  refine Gm rfl ?_
  refine AT (AB (.t2 0 5) ?_)
  refine DE (k+1) _ _ _ ?_ ?_ (.t2 5 0) (.refl _)
  · exact⟨by omega,by omega,hI13.trans ((O8 hI11 (by omega)).trans ((AX (show(!((A4 V1 ls1 ev1).Ci 4).2)=false by rw [hE];exact c5)).trans (by rw [hE]))),(QR hI14 (by omega) (by omega) hI23).mono (by omega) (by omega)⟩
  · omega
 have c1p:=kz c1
 refine Bl (AY (AY (Am ?_)))
 refine Bo rfl .n ?_
 intro w1 hS
 have hS:=(hS.perm (Ax.perm (.c .h (.c .h (.c .h .n))))).A3
 refine⟨_,⟨V1,ls1,ev1,rfl,?ga2,rfl⟩,hS⟩
 case ga2=>exact(hI13.trans (by rw [show(5 - k).toNat=0 by omega];rfl)).symm
theorem Pq (b:Nat)(V:AL)(ls:Vector BI 4)(ev:List Ing.Event)(d:Int)(n m:Nat)(hF:AH.Fit (A4 V ls ev) n m)(hn:n≤500000)(hm:m≤500000):Fx Tryz.prog 60 #[.pointer (some ⟨b,0,none⟩), .int .i64 d] [Af.box b 101 (AL.enc V),Af.D0 (CJ 9 (AL.Ar V) ls),Af.own (AL.last V) 56 16 ((ev).flatMap Ing.Event.enc)] (fun w=>(GV 2 GO w∧2 ∉ Cp [Af.box b 101 (AL.enc V),Af.D0 (CJ 9 (AL.Ar V) ls),Af.own (AL.last V) 56 16 ((ev).flatMap Ing.Event.enc)])∧(GV 0 AI.DT w∧0 ∉ Cp [Af.box b 101 (AL.enc V),Af.D0 (CJ 9 (AL.Ar V) ls),Af.own (AL.last V) 56 16 ((ev).flatMap Ing.Event.enc)])∧(HI 7 w∧7 ∉ Cp [Af.box b 101 (AL.enc V),Af.D0 (CJ 9 (AL.Ar V) ls),Af.own (AL.last V) 56 16 ((ev).flatMap Ing.Event.enc)])∧(HI 8 w∧8 ∉ Cp [Af.box b 101 (AL.enc V),Af.D0 (CJ 9 (AL.Ar V) ls),Af.own (AL.last V) 56 16 ((ev).flatMap Ing.Event.enc)])) (fun v B=>∃ V' ls' ev',v = .tuple #[]∧A4 V' ls' ev'=AH.M5 (A4 V ls ev) d∧B = [Af.box b 101 (AL.enc V'),Af.D0 (CJ 9 (AL.Ar V') ls'),Af.own (AL.last V') 56 16 ((ev').flatMap Ing.Event.enc)]):=by
 intro w hS0 hH
 obtain⟨⟨gl0,gm0⟩,⟨gl1,gm1⟩,⟨gl2,gm2⟩,⟨gl3,gm3⟩⟩:=hH
 refine Ao _ _ Tryz.func60 rfl rfl rfl (hS0) ?_
 refine CH (Gm rfl (AT (AA (Ak ?_))))
 refine Bt (.t3 8 0 1) ?_
 refine BZ (.t (.t .h)) ?_
 refine BZ (.t (.t .h)) ?_
 refine BZ (.t (.t .h)) ?_
 refine JA (fun(i:Int) (V1:AL) (ls1:Vector BI 4) (ev1:List Ing.Event)=>0≤i∧i≤4∧(A4 V1 ls1 ev1)=AH.turns (A4 V ls ev) i.toNat) (fun(i:Int) (V1:AL) (ls1:Vector BI 4) (ev1:List Ing.Event)=>(4 - i).toNat) (fun(i:Int) (V1:AL) (ls1:Vector BI 4) (ev1:List Ing.Event)=> [(8, .int .i64 i)]) (fun(i:Int) (V1:AL) (ls1:Vector BI 4) (ev1:List Ing.Event)=> [Af.box b 101 (AL.enc V1),Af.D0 (CJ 9 (AL.Ar V1) ls1),Af.own (AL.last V1) 56 16 (ev1.flatMap Ing.Event.enc)]) (0) (V) (ls) (ev) ?_ rfl rfl (fun i V1 ls1 ev1 hI1=>?_)
 · exact⟨by omega,by omega,rfl⟩
 obtain⟨hI11,hI12,hI13⟩:=hI1
 refine Gs (Gt (BC rfl rfl) (AT (AA (Au ?_))))
 refine Gc (fun c1=>?_) (fun c1=>?_)
 ·
  have c1p:=kz c1
  have hi:0≤i∧i < 4:=⟨by omega,by omega⟩
  refine Aa ?_
  refine AB (.t3 0 1 8) ?_
  refine AA (Au (Ak (Gs (Gm rfl (Ga rfl (Gn (.t4 0 1 4 8) (AK ?_)))))))
  refine Gm rfl (Gm rfl (Gm rfl (Gt (Ba rfl) (Gt (Aj F4 rfl) ?_))))
  refine Gt (AV Oi rfl rfl (by first | omega | exact hi.1 | exact hi.2) (by first | omega | exact hi.1 | exact hi.2)) ?_
  refine BB rfl eY (.c rfl (.c rfl .n)) (.c .h (.c .h (.c .h .n))) (Qk _ V1 ls1 ev1 i (n+44) (m+44) hi (by rw [hI13];exact(AH.Kf hF i.toNat (by omega)).mono (by omega) (by omega)) (by omega) (by omega)) (fun w hS=>⟨gl0.pull gm0 hS (.c .h (.c .h (.c .h .n))),gl1.pull gm1 hS (.c .h (.c .h (.c .h .n))),gl2.pull gm2 hS (.c .h (.c .h (.c .h .n))),gl3.pull gm3 hS (.c .h (.c .h (.c .h .n)))⟩) (fun v1 B hv=>?_)
  obtain⟨y2,y3,y4,rfl,y5,rfl⟩:=hv
  refine AT (AB (.t3 0 1 8) ?_)
  refine AW (AA (AK ?_))
  refine Gt (Ay rfl rfl (IntWalk.i64_in _ (by first | omega | exact hi.1 | exact hi.2))) ?_
  refine Gm rfl ?_
  refine AT (AB (.t3 0 1 8) ?_)
  refine DE (i+1) _ _ _ ?_ ?_ (.t3 8 0 1) (.refl _)
  · exact⟨by omega,by omega,y5.trans (by rw [hI13];exact(UF hI11).symm)⟩
  · omega
 have c1p:=kz c1
 obtain rfl:i=4:=by omega
 have hF1:=AH.Kf hF 4 (Nat.le_refl 4)
 rw [show(4:Nat)=(4:Int).toNat from rfl,← hI13] at hF1
 have hrl:(AF.CD V1.w d).2.1.length≤78:=AF.QH hF1.Fz.IK d
 have hrs:=AF.LQ (draw:=d) hF1.Fz
 have hF4:=((hF1.land hrs.1).GP hrs.2).mono (Nat.add_le_add_left hrl _) (Nat.add_le_add_left hrl _)
 refine Bl (AY (AY (Am ?_)))
 refine AB (.t2 0 1) ?_
 refine AA (Gs (Gm rfl (Gt (Ba rfl) (Gt (Aj EP rfl) (Gt (AU rfl Be .m0 AL.l0 rfl) (Gm rfl ?_))))))
 refine BB rfl eD (.c rfl (.c rfl .n)) .n (Mj V1.w d hF1.Fz.IK) (fun w hS=>gl1.pull gm1 hS .n) (fun v6 B hv=>?_)
 obtain⟨y7,rfl,y8,rfl⟩:=hv
 refine Gm rfl (Gt (AM rfl rfl) (Gt (AM rfl rfl) (Gt (AM rfl rfl) ?_)))
 refine A6 rfl NX rfl (fun b1=>?_)
 refine AO (AJ (AQ.id AI.fl.len AI.fl.one) rfl rfl rfl EE rfl .h) ?_
 refine Ga rfl (Ga rfl (Gn (.t3 0 5 6) (Gs (Gm rfl (Gt (AU rfl Be .m0 (AQ.id AI.fl.len AI.fl.one) rfl) (Gt (Ba rfl) (Gt (Aj EP rfl) ?_)))))))
 refine AO (AJ AL.l0 rfl rfl rfl EE rfl (.t (.t .h))) ?_
 refine Gn (.t2 0 6) (Gs (Gm rfl (Gm rfl ?_)))
 refine BB rfl WM (.c rfl (.c rfl .n)) (.c (.t (.t .h)) (.c (.t (.t .h)) (.c (.t (.t .h)) (.c (.t .h) .n)))) (Ez _ { V1 with w:=(AF.CD V1.w d).1 } ls1 ev1 _ (AF.CD V1.w d).2.1 _ (by assumption) (Gv hF1) (by omega) (Nat.le_trans hF1.last (by omega)) (fun e he c _=>hrs.2 e he)) (fun w hS=>⟨gl0.pull gm0 hS (.c (.t (.t .h)) (.c (.t (.t .h)) (.c (.t (.t .h)) (.c (.t .h) .n)))),gl1.pull gm1 hS (.c (.t (.t .h)) (.c (.t (.t .h)) (.c (.t (.t .h)) (.c (.t .h) .n))))⟩) (fun v10 B hv=>?_)
 obtain⟨y11,y12,y13,rfl,y14,rfl⟩:=hv
 refine Gn (.t1 0) (AK (Gm rfl ?_))
 refine BB rfl SQ (.c rfl .n) (.c .h (.c .h (.c .h .n))) (D2 _ y11 y12 y13 _ _ (by rw [y14];exact hF4) (by omega) (by omega)) (fun w hS=>⟨gl0.pull gm0 hS (.c .h (.c .h (.c .h .n))),gl1.pull gm1 hS (.c .h (.c .h (.c .h .n))),gl2.pull gm2 hS (.c .h (.c .h (.c .h .n))),gl3.pull gm3 hS (.c .h (.c .h (.c .h .n)))⟩) (fun v15 B hv=>?_)
 obtain⟨y16,y17,y18,rfl,y19,rfl⟩:=hv
 refine AT ?_
 refine Bo rfl .n ?_
 intro w1 hS
 have hS:=(hS.perm (Ax.perm (.c .h (.c .h (.c .h .n))))).A3
 refine⟨_,⟨y16,y17,y18,rfl,?ga1,rfl⟩,hS⟩
 case ga1=>rw [y19,y14,Oa];show AH.BQ (AH.GP { (A4 V1 ls1 ev1) with w:=(AF.CD ((A4 V1 ls1 ev1)).w d).1 } (AF.CD ((A4 V1 ls1 ev1)).w d).2.1)=_;rw [hI13];rfl
theorem F0 (opt:Int)(w:World):Ee Tryz.prog 73 #[.int .i64 opt] w fun v w'=>v = .tuple #[.int .i64 (AR.place opt).1, .bool (AR.place opt).2.1, .bool (AR.place opt).2.2]∧B9 w w':=by
 refine Ao [] [] Tryz.func73 rfl rfl rfl (St.start w []) ?_
 refine Gs (Ga rfl (Ga rfl (Ga rfl (Gn (.t1 0) (CH (Gm rfl (Gn (.t1 5) ?_)))))))
 refine Ak (Gs (Gt (Ai rfl rfl) (Ga rfl (Gn (.t2 5 6) ?_))))
 refine Gc (fun c1=>?_) (fun c1=>?_)
 ·
  refine Gs (Ga rfl (Ga rfl (Ga rfl (Gn (.t3 2 3 4) (Ae (AS (AE ?_)))))))
  refine AZ rfl (.tmp rfl (.tmp rfl (.tmp rfl .n))) ?_
  intro w1 hS;refine⟨?_,hS.Al⟩;simp only [AR.place,c1,↓reduceIte,Bool.false_eq_true];rfl
 refine Gs (Gt (Ai rfl rfl) (Ga rfl (Gn (.t2 5 8) ?_)))
 refine Gc (fun c2=>?_) (fun c2=>?_)
 ·
  refine Gs (Ga rfl (Ga rfl (Ga rfl (Gn (.t3 2 3 4) (Ae (AS (AE ?_)))))))
  refine AZ rfl (.tmp rfl (.tmp rfl (.tmp rfl .n))) ?_
  intro w1 hS;refine⟨?_,hS.Al⟩;simp only [AR.place,c1,c2,↓reduceIte,Bool.false_eq_true];rfl
 refine Gs (Gt (Ai rfl rfl) (Ga rfl (Gn (.t1 10) ?_)))
 refine Gc (fun c3=>?_) (fun c3=>?_)
 ·
  refine Gs (Ga rfl (Ga rfl (Ga rfl (Gn (.t3 2 3 4) (Ae (AS (AE ?_)))))))
  refine AZ rfl (.tmp rfl (.tmp rfl (.tmp rfl .n))) ?_
  intro w1 hS;refine⟨?_,hS.Al⟩;simp only [AR.place,c1,c2,c3,↓reduceIte,Bool.false_eq_true];rfl
 refine Aa ?_
 refine AB (.nil _) ?_
 refine AW (AA (Gs (Ga rfl (Ga rfl (Ga rfl (AT (AA ?_)))))))
 refine Ae ?_
 refine AZ rfl (.tmp rfl (.tmp rfl (.tmp rfl .n))) ?_
 intro w1 hS;refine⟨?_,hS.Al⟩;simp only [AR.place,c1,c2,c3,↓reduceIte,Bool.false_eq_true];rfl
theorem GU (X:AR)(w:World):Ee Tryz.prog 55 #[.agg X.enc.toArray] w fun v w'=>v = .bool X.Bk∧B9 w w':=by
 refine Ao [] [] Tryz.func55 rfl rfl rfl (St.start w []) ?_
 refine Gs ?_
 refine B4 rfl rfl rfl (fun b1=>?_)
 refine Ga rfl (Gn (.t1 1) (CH (Gm rfl (AT (AA (Ak ?_))))))
 refine Bt (.t2 4 1) ?_
 refine Ch (fun(k:Int)=>0≤k∧k≤3∧X.Bk=(CA 3 (fun i=>!X.PM i) (3 - k).toNat && (!(!decide (X.us.at 2=0) || !decide (X.Gq.at 0=0)) && X.Qc))) (fun(k:Int)=>(3 - k).toNat) (fun(k:Int)=> [(4, .int .i64 k)]) (fun(k:Int)=> []) (0) ?_ rfl rfl (fun k hI1=>?_)
 · exact⟨Int.le_refl _,by omega,rfl⟩
 obtain⟨hI11,hI12,hI13⟩:=hI1
 refine Gs (Gt (BC rfl rfl) (AT (AA (Au ?_))))
 refine Gc (fun c1=>?_) (fun c1=>?_)
 ·
  have c1p:=kz c1
  rw [Da _ (by omega)] at hI13
  refine Aa ?_
  refine AB (.t2 1 4) ?_
  refine AA (Au (Ak (Gs (Gm rfl (Ga rfl (Gn (.t3 1 3 4) (Gs ?_)))))))
  refine Gm rfl (Gt (Aj K2 rfl) ?_)
  refine Gt (AV K9 rfl rfl (by omega) (by omega)) ?_
  refine Gt (AG rfl A5 .m0 (AR.l3.comp (AQ.ar (n:=3) B5 (by omega))) rfl rfl) ?_
  refine Gt (BC rfl rfl) (Gm rfl (Bf 12 rfl rfl (fun q=>AD rfl) (Bf 12 rfl rfl (fun q=>Aj K2 rfl) ?_)))
  refine Bf 12 rfl rfl (fun q=>by have q1:=q;(try simp at q1);exact AV K9 (cF rfl q) (cF rfl q) (by omega) (by omega)) ?_
  refine Bf 12 rfl rfl (fun q=>by have q1:=q;(try simp at q1);exact AG (cF rfl q) A5 .m0 (AR.l3.comp (AQ.ar (n:=3) B5 (by omega))) rfl rfl) ?_
  refine Bf 12 rfl rfl (fun q=>Cn (cF rfl q) rfl) ?_
  refine Gt (BU rfl rfl (fun h=>by rw [h];rfl)) ?_
  refine Gm rfl (Bf 19 rfl rfl (fun q=>AD rfl) (Bf 19 rfl rfl (fun q=>Aj KQ rfl) ?_))
  refine Bf 19 rfl rfl (fun q=>by have q1:=q;(try simp at q1);exact AV K9 (cF rfl q) (cF rfl q) (by omega) (by omega)) ?_
  refine Bf 19 rfl rfl (fun q=>by have q1:=q;(try simp at q1);exact AG (cF rfl q) A5 .m0 (AR.l4.comp (AQ.ar (n:=3) B5 (by omega))) rfl rfl) ?_
  refine Bf 19 rfl rfl (fun q=>BC (cF rfl q) rfl) ?_
  refine Gt (BU rfl rfl (fun h=>by rw [h];rfl)) ?_
  refine Gm rfl (Bf 26 rfl rfl (fun q=>AD rfl) (Bf 26 rfl rfl (fun q=>Aj KQ rfl) ?_))
  refine Bf 26 rfl rfl (fun q=>by have q1:=q;(try simp at q1);exact AV K9 (cF rfl q) (cF rfl q) (by omega) (by omega)) ?_
  refine Bf 26 rfl rfl (fun q=>by have q1:=q;(try simp at q1);exact AG (cF rfl q) A5 .m0 (AR.l4.comp (AQ.ar (n:=3) B5 (by omega))) rfl rfl) ?_
  refine Bf 26 rfl rfl (fun q=>Cn (cF rfl q) rfl) ?_
  refine Gt (BU rfl rfl (fun h=>by rw [h];rfl)) ?_
  refine Gn (.t3 1 4 32) ?_
  refine Gc (fun c2=>?_) (fun c2=>?_)
  ·
   refine Gs (Ga rfl (Gn (.t1 2) (Ae (AS (AE (AE (AS ?_)))))))
   refine AE ?_
   refine AZ rfl (.tmp rfl .n) ?_
   intro w1 hS;refine⟨congrArg Value.bool ?_,hS.Al⟩;rw [hI13,AR.PM,c2];rfl
  have c2p:=kz c2
  refine Aa ?_
  refine AB (.t2 1 4) ?_
  refine AW (AA (AK ?_))
  refine Gt (Ay rfl rfl (IntWalk.i64_in _ (by omega))) ?_
  refine Gm rfl ?_
  refine AT (AB (.t2 1 4) ?_)
  refine B7 (k+1) ?_ ?_ (.t2 4 1) (.refl _)
  · exact⟨by omega,by omega,by rw [hI13,AR.PM,c2];rfl⟩
  · omega
 have c1p:=kz c1
 obtain rfl:k=3:=by omega
 refine Bl (AY (AY (Am ?_)))
 refine AB (.t1 1) ?_
 refine AA (CH (Gt (Aj K2 rfl) ?_))
 refine Gt (AV K9 rfl rfl (by decide) (by decide)) ?_
 refine Gt (AG rfl A5 .m0 (AR.l3.comp (AQ.arr (n:=3) B5 (by decide) (by decide))) rfl rfl) ?_
 refine Gt (Cb rfl rfl) (Gm rfl (Bf 38 rfl rfl (fun q=>Aj KQ rfl) ?_))
 refine Bf 38 rfl rfl (fun q=>AV K9 (cF rfl q) rfl (by decide) (by decide)) ?_
 refine Bf 38 rfl rfl (fun q=>AG (cF rfl q) A5 .m0 (AR.l4.comp (AQ.arr (n:=3) B5 (by decide) (by decide))) rfl rfl) ?_
 refine Bf 38 rfl rfl (fun q=>Cb (cF rfl q) rfl) ?_
 refine Gt (BU rfl rfl (fun h=>by rw [h];rfl)) ?_
 refine Gn (.t2 1 43) ?_
 refine Gc (fun c3=>?_) (fun c3=>?_)
 ·
  refine Gs (Ga rfl (Gn (.t1 2) (Ae (AE ?_))))
  refine AZ rfl (.tmp rfl .n) ?_
  intro w1 hS;refine⟨congrArg Value.bool ?_,hS.Al⟩;rw [hI13,c3];rfl
 refine Aa ?_
 refine AB (.t1 1) ?_
 refine AA (Gs (Gt (Aj F1 rfl) (Gt (AG rfl A5 .m0 AR.l0 rfl rfl) (Gt (CO rfl rfl) (Gm rfl (Bg 47 rfl rfl (fun q=>Aj F1 rfl) (Bg 47 rfl rfl (fun q=>AG (Bc rfl q) A5 .m0 AR.l0 rfl rfl) ?_)))))))
 refine Bg 47 rfl rfl (fun q=>Ia (Bc rfl q) rfl) (Gt (BM rfl rfl (fun h=>h)) (Gm rfl (Bg 52 rfl rfl (fun q=>Aj F1 rfl) (Bg 52 rfl rfl (fun q=>AG (Bc rfl q) A5 .m0 AR.l0 rfl rfl) (Bg 52 rfl rfl (fun q=>Ai (Bc rfl q) rfl) (Bg 52 rfl rfl (fun q=>Aj K6 rfl) (Bg 52 rfl rfl (fun q=>AG (Bc rfl q) A5 .m0 AR.l1 rfl rfl) ?_)))))))
 refine Bg 52 rfl rfl (fun q=>Cb (Bc rfl q) rfl) (Bg 52 rfl rfl (fun q=>Ex Tryz.underlying4 (Bc rfl q) (Bc rfl q)) (Gt (BM rfl rfl (fun h=>h)) (Gm rfl (Bg 61 rfl rfl (fun q=>Aj K6 rfl) (Bg 61 rfl rfl (fun q=>AG (Bc rfl q) A5 .m0 AR.l1 rfl rfl) (Bg 61 rfl rfl (fun q=>Ai (Bc rfl q) rfl) (Bg 61 rfl rfl (fun q=>AD (Bc rfl q)) ?_)))))))
 refine Ct (t:=65) rfl rfl rfl (fun qc q=>Aj K6 rfl) ?_
 refine Ct (t:=65) rfl rfl rfl (fun qc q=>AG (Bc rfl (by rw [qc,q];rfl)) A5 .m0 AR.l1 rfl rfl) ?_
 refine Ct (t:=65) rfl rfl rfl (fun qc q=>CO (Bc rfl (by rw [qc,q];rfl)) rfl) ?_
 refine Ct (t:=65) rfl rfl rfl (fun qc q=>AD (Bc rfl (by rw [qc,q];rfl))) ?_
 refine C8 (t:=69) rfl rfl rfl (fun qc q=>Aj K6 rfl) ?_
 refine C8 (t:=69) rfl rfl rfl (fun qc q=>AG (Bc rfl (by rw [qc,q];rfl)) A5 .m0 AR.l1 rfl rfl) ?_
 refine C8 (t:=69) rfl rfl rfl (fun qc q=>Ia (Bc rfl (by rw [qc,q];rfl)) rfl) ?_
 refine Ct (t:=65) rfl rfl rfl (fun qc q=>BM (Bc rfl (by rw [qc,q];rfl)) rfl (fun h=>by rw [qc,q,h];rfl)) ?_
 refine Bg 61 rfl rfl (fun q=>BU (Bc rfl q) rfl (fun h=>by rw [q,h];rfl)) ?_
 refine Gt (BM rfl rfl (fun h=>h)) (Gm rfl (Bg 76 rfl rfl (fun q=>Aj G8 rfl) (Bg 76 rfl rfl (fun q=>AG (Bc rfl q) CK .m0 AR.l2 rfl rfl) (Bg 76 rfl rfl (fun q=>BO rfl Tryz.underlying9 (Bc rfl q)) (Bg 76 rfl rfl (fun q=>Ia (Bc rfl q) rfl) (Gt (BM rfl rfl (fun h=>h)) (Gm rfl ?_)))))))
 refine Bg 82 rfl rfl (fun q=>Aj F1 rfl) (Bg 82 rfl rfl (fun q=>AG (Bc rfl q) A5 .m0 AR.l0 rfl rfl) (Bg 82 rfl rfl (fun q=>CO (Bc rfl q) rfl) (Bg 82 rfl rfl (fun q=>AD (Bc rfl q)) ?_)))
 refine Ct (t:=86) rfl rfl rfl (fun qc q=>Aj G8 rfl) ?_
 refine Ct (t:=86) rfl rfl rfl (fun qc q=>AG (Bc rfl (by rw [qc,q];rfl)) CK .m0 AR.l2 rfl rfl) ?_
 refine Ct (t:=86) rfl rfl rfl (fun qc q=>Bv (Bc rfl (by rw [qc,q];rfl)) rfl) ?_
 refine Bg 82 rfl rfl (fun q=>BU (Bc rfl q) rfl (fun h=>by rw [q,h];rfl)) ?_
 refine Gt (BM rfl rfl (fun h=>h)) (Gm rfl (Bg 92 rfl rfl (fun q=>Aj Ri rfl) (Bg 92 rfl rfl (fun q=>AG (Bc rfl q) A5 .m0 AR.l5 rfl rfl) (Bg 92 rfl rfl (fun q=>CO (Bc rfl q) rfl) (Gt (BM rfl rfl (fun h=>h)) (Gm rfl (Bg 97 rfl rfl (fun q=>Aj Ri rfl) ?_)))))))
 refine Bg 97 rfl rfl (fun q=>AG (Bc rfl q) A5 .m0 AR.l5 rfl rfl) (Bg 97 rfl rfl (fun q=>Ia (Bc rfl q) rfl) (Gt (BM rfl rfl (fun h=>h)) (Ga rfl (Gn (.t1 2) (Ae ?_)))))
 refine AZ rfl (.tmp rfl .n) ?_
 intro w1 hS;refine⟨congrArg Value.bool ?_,hS.Al⟩;rw [hI13,c3];rfl
theorem C6 (verb opt:Int)(h0:0≤verb∧verb≤255)(h1:0≤opt∧opt≤255)(w:World):Ee Tryz.prog 74 #[.int .i64 verb, .int .i64 opt] w fun v w'=>v=BW (AR.Ww verb opt)∧B9 w w':=by
 refine Ao [] [] Tryz.func74 rfl rfl rfl (St.start w []) ?_
 refine Gs (Ga rfl (Gn (.t2 0 1) (Gs (Gm rfl ?_))))
 refine Gt (OU Tryz.underlying5 Tryz.underlying3 rfl (IntWalk.u8_in _ (by omega))) ?_
 refine Gm rfl ?_
 refine Gt (OU Tryz.underlying5 Tryz.underlying3 rfl (IntWalk.u8_in _ (by omega))) ?_
 refine Xb (cs:=CM (n:=3) an (Vector.replicate 3 default)) rfl Tryz.underlying105 Vw aN (by decide) (by decide) (by kernel_rfl) (.cons (AQ.arr (n:=3) (i:=0) du (by decide) (by decide)) rfl rfl rfl (.cons (AQ.arr (n:=3) (i:=1) du (by decide) (by decide)) rfl rfl rfl (.cons (AQ.arr (n:=3) (i:=2) du (by decide) (by decide)) rfl rfl rfl .nil))) ((Js du).len _) (fun b1=>?_)
 refine Gt (OH (s:=AR.Ww verb opt) (by rw [show(AR.Ww verb opt).flatMap DV = [.int .u8 255, .int .u8 verb, .int .u8 opt] from by simp [AR.Ww,DV,TO h0.1 h0.2,TO h1.1 h1.2]];rfl) Tryz.underlying105 Tryz.underlying9 Tryz.underlying5 rfl (Kn.own .m0)) ?_
 refine Ga rfl (Gn (.t1 4) (Ae ?_))
 refine AZ rfl (.tmp rfl .n) ?_
 intro w1 hS;refine⟨?_,hS.Al⟩;rfl
theorem MP (X:AR)(opt:Int)(w:World):Ee Tryz.prog 80 #[.agg X.enc.toArray, .int .i64 opt] w fun v w'=>v = .tuple #[.agg (X.DR opt).1.enc.toArray,BW (X.DR opt).2.1, .int .i64 (X.DR opt).2.2]∧B9 w w':=by
 refine Ao [] [] Tryz.func80 rfl rfl rfl (St.start w []) ?_
 refine Gs ?_
 refine B4 rfl rfl rfl (fun b1=>?_)
 refine A6 rfl aY rfl (fun b2=>?_)
 refine Ga rfl (Ga rfl (Gn (.t3 1 2 4) (Gs (Gm rfl ?_))))
 refine BE rfl bK (.c rfl .n) (fun w hS=>F0 _ w) ?_
 refine Gm rfl (Gt (AM rfl rfl) (Gt (AM rfl rfl) (Gt (AM rfl rfl) (Ga rfl (Ga rfl (Ga rfl (Gn (.t5 1 2 4 7 8) ?_)))))))
 refine Au (Ak (Gs (Gt (AU rfl EC .m1 (AQ.id AR.fl.len AR.fl.one) rfl) ?_)))
 refine BE rfl aT (.c rfl .n) (fun w hS=>GU _ w) ?_
 refine Gt (BX rfl) (Ga rfl (Gn (.t6 1 2 4 7 8 16) ?_))
 refine Gc (fun c1=>?_) (fun c1=>?_)
 ·
  refine Gs (Gt (AU rfl EC .m1 (AQ.id AR.fl.len AR.fl.one) rfl) ?_)
  refine AO (AJ (AQ.id AR.fl.len AR.fl.one) rfl rfl rfl Kt rfl .h) ?_
  refine Ga rfl (Ga rfl (Gn (.t3 4 5 6) (Ae (AS (AE ?_)))))
  refine AZ rfl (.cell rfl .m0 (.inl ⟨(by rw [AR.fl.len];exact EC),rfl⟩) (.tmp rfl (.tmp rfl .n))) ?_
  intro w1 hS;refine⟨?_,hS.Al⟩;simp only [AR.DR,c1,↓reduceIte,Bool.false_eq_true];rfl
 have c1p:=kz c1
 refine Gs (Gm rfl (Gt (BX rfl) (Ga rfl (Gn (.t5 1 2 4 7 21) ?_))))
 refine Gc (fun c2=>?_) (fun c2=>?_)
 ·
  refine Gs (Gt (AU rfl EC .m1 (AQ.id AR.fl.len AR.fl.one) rfl) ?_)
  refine AO (AJ (AQ.id AR.fl.len AR.fl.one) rfl rfl rfl Kt rfl .h) ?_
  refine Ga rfl (Ga rfl (Gn (.t3 4 5 6) (Ae (AS (AE ?_)))))
  refine AZ rfl (.cell rfl .m0 (.inl ⟨(by rw [AR.fl.len];exact EC),rfl⟩) (.tmp rfl (.tmp rfl .n))) ?_
  intro w1 hS;refine⟨?_,hS.Al⟩;simp only [AR.DR,c1,c2,↓reduceIte,Bool.false_eq_true];rfl
 have c2p:=kz c2
 have hk:=AR.OD (opt:=opt) (by simpa using c2)
 have hk1:0≤(AR.place opt).1∧(AR.place opt).1 < 3:=by rcases hk with ⟨_,e⟩ | ⟨_,e⟩<;>rw [e]<;>decide
 have ho:0≤opt∧opt≤255:=by rcases hk with ⟨e,_⟩ | ⟨e,_⟩<;>omega
 refine Gs (Gm rfl (Gt (Aj K2 rfl) ?_))
 refine Gt (AV K9 rfl rfl (by omega) (by omega)) ?_
 refine Gt (AG rfl A5 .m1 (AR.l3.comp (AQ.ar (n:=3) B5 (by omega))) rfl rfl) ?_
 refine Gt (Cb rfl rfl) (Ga rfl (Gn (.t5 1 2 4 7 25) ?_))
 refine Gc (fun c3=>?_) (fun c3=>?_)
 ·
  refine Gs (Gt (AU rfl EC .m1 (AQ.id AR.fl.len AR.fl.one) rfl) ?_)
  refine AO (AJ (AQ.id AR.fl.len AR.fl.one) rfl rfl rfl Kt rfl .h) ?_
  refine Ga rfl (Ga rfl (Gn (.t3 4 5 6) (Ae (AS (AE ?_)))))
  refine AZ rfl (.cell rfl .m0 (.inl ⟨(by rw [AR.fl.len];exact EC),rfl⟩) (.tmp rfl (.tmp rfl .n))) ?_
  intro w1 hS;refine⟨?_,hS.Al⟩;simp only [AR.DR,c1,c2,c3,↓reduceIte,Bool.false_eq_true];rfl
 have c3p:=kz c3
 refine Aa ?_
 refine AB (.t4 1 2 4 7) ?_
 refine AW (AA (Gs (Gm rfl (Gt (Aj K2 rfl) ?_))))
 refine Gt (AV K9 rfl rfl (by omega) (by omega)) ?_
 refine AO (AJ (AR.l3.comp (AQ.ar (n:=3) B5 (by omega))) rfl rfl rfl DJ rfl (.t .h)) ?_
 refine Gn (.t3 1 2 4) (Au ?_)
 refine BN (N:=6) [0,0,2,7,15,31] mix (by kernel_rfl) rfl ?_
 refine Pf 0 rfl (AU rfl EC .m1 (AQ.id AR.fl.len AR.fl.one) rfl) (Pf 1 rfl (AD rfl) ?_)
 refine Bh 2 rfl rfl (by kernel_rfl) (Lv (K3 (EB Sg (.c rfl (.c rfl .n)) (fun w hS=>C6 _ _ (by first | assumption | omega) (by first | assumption | omega) w)))) ?_
 refine Ab 3 rfl (by kernel_rfl) ?_
 refine AO (AJ (AQ.id AR.fl.len AR.fl.one) rfl rfl rfl Kt rfl .h) ?_
 refine A7 rfl ⟨?_,?_⟩
 · exact(Pk (Pk (Pk Ac)))
 refine Pf 4 rfl (A1 rfl) (Pf 5 rfl (A1 rfl) ?_)
 refine Az (by kernel_rfl) ?_
 refine AB (.t3 4 5 6) ?_
 refine AA (Ae ?_)
 refine AZ rfl (.cell rfl .m0 (.inl ⟨(by rw [AR.fl.len];exact EC),rfl⟩) (.tmp rfl (.tmp rfl .n))) ?_
 intro w1 hS;refine⟨?_,hS.Al⟩;simp only [AR.DR,c1,c2,c3,↓reduceIte,Bool.false_eq_true];rfl
theorem NU (X:AR)(opt:Int)(w:World):Ee Tryz.prog 81 #[.agg X.enc.toArray, .int .i64 opt] w fun v w'=>v = .tuple #[.agg (X.Ask opt).1.enc.toArray,BW (X.Ask opt).2.1, .int .i64 (X.Ask opt).2.2]∧B9 w w':=by
 refine Ao [] [] Tryz.func81 rfl rfl rfl (St.start w []) ?_
 refine Gs ?_
 refine B4 rfl rfl rfl (fun b1=>?_)
 refine A6 rfl aY rfl (fun b2=>?_)
 refine Ga rfl (Ga rfl (Gn (.t3 1 2 4) (Gs (Gm rfl ?_))))
 refine BE rfl bK (.c rfl .n) (fun w hS=>F0 _ w) ?_
 refine Gm rfl (Gt (AM rfl rfl) (Gt (AM rfl rfl) (Gt (AM rfl rfl) (Ga rfl (Ga rfl (Ga rfl (Gn (.t5 1 2 4 7 9) ?_)))))))
 refine Au (Ak (Gs (Gt (AU rfl EC .m1 (AQ.id AR.fl.len AR.fl.one) rfl) ?_)))
 refine BE rfl aT (.c rfl .n) (fun w hS=>GU _ w) ?_
 refine Gt (BX rfl) (Ga rfl (Gn (.t6 1 2 4 7 9 16) ?_))
 refine Gc (fun c1=>?_) (fun c1=>?_)
 ·
  refine Gs (Gt (AU rfl EC .m1 (AQ.id AR.fl.len AR.fl.one) rfl) ?_)
  refine AO (AJ (AQ.id AR.fl.len AR.fl.one) rfl rfl rfl Kt rfl .h) ?_
  refine Ga rfl (Ga rfl (Gn (.t3 4 5 6) (Ae (AS (AE ?_)))))
  refine AZ rfl (.cell rfl .m0 (.inl ⟨(by rw [AR.fl.len];exact EC),rfl⟩) (.tmp rfl (.tmp rfl .n))) ?_
  intro w1 hS;refine⟨?_,hS.Al⟩;simp only [AR.Ask,c1,↓reduceIte,Bool.false_eq_true];rfl
 have c1p:=kz c1
 refine Gs (Gm rfl (Gt (BX rfl) (Ga rfl (Gn (.t5 1 2 4 7 21) ?_))))
 refine Gc (fun c2=>?_) (fun c2=>?_)
 ·
  refine Gs (Gt (AU rfl EC .m1 (AQ.id AR.fl.len AR.fl.one) rfl) ?_)
  refine AO (AJ (AQ.id AR.fl.len AR.fl.one) rfl rfl rfl Kt rfl .h) ?_
  refine Ga rfl (Ga rfl (Gn (.t3 4 5 6) (Ae (AS (AE ?_)))))
  refine AZ rfl (.cell rfl .m0 (.inl ⟨(by rw [AR.fl.len];exact EC),rfl⟩) (.tmp rfl (.tmp rfl .n))) ?_
  intro w1 hS;refine⟨?_,hS.Al⟩;simp only [AR.Ask,c1,c2,↓reduceIte,Bool.false_eq_true];rfl
 have c2p:=kz c2
 have hk:=AR.K4 (opt:=opt) (by simpa using c2)
 have hk1:0≤(AR.place opt).1∧(AR.place opt).1 < 3:=by rcases hk with ⟨_,e⟩ | ⟨_,e⟩<;>rw [e]<;>decide
 have ho:0≤opt∧opt≤255:=by rcases hk with ⟨e,_⟩ | ⟨e,_⟩<;>omega
 refine Gs (Gm rfl (Gt (Aj KQ rfl) ?_))
 refine Gt (AV K9 rfl rfl (by omega) (by omega)) ?_
 refine Gt (AG rfl A5 .m1 (AR.l4.comp (AQ.ar (n:=3) B5 (by omega))) rfl rfl) ?_
 refine Gt (Cb rfl rfl) (Ga rfl (Gn (.t5 1 2 4 7 25) ?_))
 refine Gc (fun c3=>?_) (fun c3=>?_)
 ·
  refine Gs (Gt (AU rfl EC .m1 (AQ.id AR.fl.len AR.fl.one) rfl) ?_)
  refine AO (AJ (AQ.id AR.fl.len AR.fl.one) rfl rfl rfl Kt rfl .h) ?_
  refine Ga rfl (Ga rfl (Gn (.t3 4 5 6) (Ae (AS (AE ?_)))))
  refine AZ rfl (.cell rfl .m0 (.inl ⟨(by rw [AR.fl.len];exact EC),rfl⟩) (.tmp rfl (.tmp rfl .n))) ?_
  intro w1 hS;refine⟨?_,hS.Al⟩;simp only [AR.Ask,c1,c2,c3,↓reduceIte,Bool.false_eq_true];rfl
 have c3p:=kz c3
 refine Aa ?_
 refine AB (.t4 1 2 4 7) ?_
 refine AW (AA (Gs (Gm rfl (Gt (Aj KQ rfl) ?_))))
 refine Gt (AV K9 rfl rfl (by omega) (by omega)) ?_
 refine AO (AJ (AR.l4.comp (AQ.ar (n:=3) B5 (by omega))) rfl rfl rfl DJ rfl (.t .h)) ?_
 refine Gn (.t3 1 2 4) (Au ?_)
 refine BN (N:=6) [0,0,2,7,15,31] mix (by kernel_rfl) rfl ?_
 refine Pf 0 rfl (AU rfl EC .m1 (AQ.id AR.fl.len AR.fl.one) rfl) (Pf 1 rfl (AD rfl) ?_)
 refine Bh 2 rfl rfl (by kernel_rfl) (Lv (K3 (EB Sg (.c rfl (.c rfl .n)) (fun w hS=>C6 _ _ (by first | assumption | omega) (by first | assumption | omega) w)))) ?_
 refine Ab 3 rfl (by kernel_rfl) ?_
 refine AO (AJ (AQ.id AR.fl.len AR.fl.one) rfl rfl rfl Kt rfl .h) ?_
 refine A7 rfl ⟨?_,?_⟩
 · exact(Pk (Pk (Pk Ac)))
 refine Pf 4 rfl (A1 rfl) (Pf 5 rfl (A1 rfl) ?_)
 refine Az (by kernel_rfl) ?_
 refine AB (.t3 4 5 6) ?_
 refine AA (Ae ?_)
 refine AZ rfl (.cell rfl .m0 (.inl ⟨(by rw [AR.fl.len];exact EC),rfl⟩) (.tmp rfl (.tmp rfl .n))) ?_
 intro w1 hS;refine⟨?_,hS.Al⟩;simp only [AR.Ask,c1,c2,c3,↓reduceIte,Bool.false_eq_true];rfl
theorem RX (b:Nat)(V:AL)(ls:Vector BI 4)(ev:List Ing.Event)(k:Int)(n m:Nat)(hk:0≤k∧k < 4)(hF:AH.Fit (A4 V ls ev) n m)(hn:n≤500000)(hm:m≤500000):Fx Tryz.prog 61 #[.pointer (some ⟨b,0,none⟩), .pointer (some ⟨b,165+k.toNat * 22,none⟩)] [Af.box b 101 (AL.enc V),Af.D0 (CJ 9 (AL.Ar V) ls),Af.own (AL.last V) 56 16 ((ev).flatMap Ing.Event.enc)] (fun w=>(GV 2 GO w∧2 ∉ Cp [Af.box b 101 (AL.enc V),Af.D0 (CJ 9 (AL.Ar V) ls),Af.own (AL.last V) 56 16 ((ev).flatMap Ing.Event.enc)])∧(GV 0 AI.DT w∧0 ∉ Cp [Af.box b 101 (AL.enc V),Af.D0 (CJ 9 (AL.Ar V) ls),Af.own (AL.last V) 56 16 ((ev).flatMap Ing.Event.enc)])∧(HI 7 w∧7 ∉ Cp [Af.box b 101 (AL.enc V),Af.D0 (CJ 9 (AL.Ar V) ls),Af.own (AL.last V) 56 16 ((ev).flatMap Ing.Event.enc)])∧(HI 8 w∧8 ∉ Cp [Af.box b 101 (AL.enc V),Af.D0 (CJ 9 (AL.Ar V) ls),Af.own (AL.last V) 56 16 ((ev).flatMap Ing.Event.enc)])) (fun v B=>∃ V' ls' ev',v = .tuple #[]∧A4 V' ls' ev'=AH.J2 (A4 V ls ev) k∧B = [Af.box b 101 (AL.enc V'),Af.D0 (CJ 9 (AL.Ar V') ls'),Af.own (AL.last V') 56 16 ((ev').flatMap Ing.Event.enc)]):=by
 intro w hS0 hH
 obtain⟨⟨gl0,gm0⟩,⟨gl1,gm1⟩,⟨gl2,gm2⟩,⟨gl3,gm3⟩⟩:=hH
 refine Ao _ _ Tryz.func61 rfl rfl rfl (hS0) ?_
 refine Au ?_
 refine FJ (k:=k) hk.1 hk.2 (fun sv sl hsv hlv hln=>?_)
 refine AK (Gm rfl (Gt (BL Vk Wf rfl (.cons A2.l0 rfl rfl rfl (.cons A2.l1 rfl rfl rfl .nil))) (Gt (Ba rfl) ?_)))
 refine AO (AJ (AQ.A8 V hk.1 hk.2) rfl rfl rfl Tu rfl (.t (.t (.t .h)))) ?_
 refine Gn (.t2 0 1) (CH ?_)
 refine Gt (E7 Tryz.underlying145 DJ cP rfl (.cons (AQ.arr (n:=2) (i:=0) B5 (by decide) (by decide)) rfl rfl rfl (.cons (AQ.arr (n:=2) (i:=1) B5 (by decide) (by decide)) rfl rfl rfl .nil))) ?_
 refine Gm rfl (AT (AA (Ak ?_)))
 refine Bt (.t4 12 0 1 11) ?_
 refine BZ (.t (.t (.t .h))) ?_
 refine D1 (fun(j:Int) (t:AR) (g:Page.Pg)=>0≤j∧j≤2∧t=(E2 j.toNat).1∧g=(E2 j.toNat).2) (fun(j:Int) (t:AR) (g:Page.Pg)=>(2 - j).toNat) (fun(j:Int) (t:AR) (g:Page.Pg)=> [(12, .int .i64 j)]) (fun(j:Int) (t:AR) (g:Page.Pg)=> [Af.box b 101 (KA V k (EY t g))]) (0) (default) (⟨0,false,[],false⟩) ?_ rfl rfl (fun j t g hI1=>?_)
 · exact⟨by omega,by omega,rfl,rfl⟩
 obtain⟨hI11,hI12,hI13,hI14⟩:=hI1
 refine Gs (Gt (BC rfl rfl) (AT (AA (Au ?_))))
 refine Gc (fun c1=>?_) (fun c1=>?_)
 ·
  have c1p:=kz c1
  refine Aa ?_
  refine AB (.t4 0 1 11 12) ?_
  refine AA (Au (Ak (Gs ?_)))
  refine Gt (KY B5 Tryz.underlying145 DJ A5 rfl rfl (by first | omega | exact hk.1 | exact hk.2 | (have h1:=Ft t (Dx j);have h2:=IM (t.DR (Dx j)).1 (Dx j);dsimp only [Dx,EY] at *;(try simp only [List.length_nil]);omega)) (by first | omega | exact hk.1 | exact hk.2 | (have h1:=Ft t (Dx j);have h2:=IM (t.DR (Dx j)).1 (Dx j);dsimp only [Dx,EY] at *;(try simp only [List.length_nil]);omega)) rfl) ?_
  refine Ga rfl (Gn (.t5 0 1 5 11 12) (Gs (Ga rfl (Ga rfl (Gn (.t6 0 1 5 7 11 12) (CH (Gm rfl ?_)))))))
  refine Gm rfl (Gt (Ba rfl) (Gt (Aj Lc rfl) (Gt (AU rfl EC .m0 ((AQ.A8 V hk.1 hk.2).comp A2.l2) rfl) (Gm rfl ?_))))
  refine BE rfl fG (.c rfl (.c rfl .n)) (fun w hS=>MP _ _ w) ?_
  refine Gm rfl (Gt (AM rfl rfl) (Gt (AM rfl rfl) (Gt (AM rfl rfl) (Gt (Ba rfl) (Gt (Aj Lc rfl) ?_)))))
  refine AO (AJ ((AQ.A8 V hk.1 hk.2).comp A2.l2) rfl rfl rfl Kt rfl .h) ?_
  refine Ga rfl (Gn (.t7 0 1 5 6 7 11 12) (Gs (Gm rfl (Gt (Bv rfl rfl) (Gn (.t8 0 1 5 6 7 11 12 29) ?_)))))
  refine Gc (fun c2=>?_) (fun c2=>?_)
  ·
   have c2p:=kz c2
   refine AK (Gm rfl (Gm rfl (Gt (Ba rfl) (Gt (Aj Lc rfl) (Gt (AU rfl EC .m0 ((AQ.A8 V hk.1 hk.2).comp A2.l2) rfl) (Gm rfl ?_))))))
   refine BE rfl eg (.c rfl (.c rfl .n)) (fun w hS=>NU _ _ w) ?_
   refine Gm rfl (Gt (AM rfl rfl) (Gt (AM rfl rfl) (Gt (AM rfl rfl) (Gt (Ba rfl) (Gt (Aj Lc rfl) ?_)))))
   refine AO (AJ ((AQ.A8 V hk.1 hk.2).comp A2.l2) rfl rfl rfl Kt rfl .h) ?_
   refine Ga rfl (Gn (.t6 0 1 6 7 11 12) (AK (Gm rfl (Gm rfl (Gt (Ba rfl) (Gt (Aj Dt rfl) (Gt (AU rfl Cv .m0 ((AQ.A8 V hk.1 hk.2).comp A2.l4) rfl) ?_)))))))
   refine Gm rfl (Gm rfl ?_)
   refine Gt (CZ rfl rfl (by first | omega | exact hk.1 | exact hk.2 | (have h1:=Ft t (Dx j);have h2:=IM (t.DR (Dx j)).1 (Dx j);dsimp only [Dx,EY] at *;(try simp only [List.length_nil]);omega))) ?_
   refine BE rfl W5 (.c rfl (.c rfl .n)) (fun w hS=>EW _ _ (by simp only [List.length_append];have h1:=Ft t (Dx j);have h2:=IM (t.DR (Dx j)).1 (Dx j);dsimp only [Dx,EY] at *;(try simp only [List.length_nil]);omega) w) ?_
   refine Gm rfl (Gt (AM rfl rfl) (Gt (AM rfl rfl) (Gt (Ba rfl) (Gt (Aj Dt rfl) ?_))))
   refine AO (AJ ((AQ.A8 V hk.1 hk.2).comp A2.l4) rfl rfl rfl Fb rfl .h) ?_
   refine AT (AB (.t4 0 1 11 12) ?_)
   refine AW (AA ?_)
   refine GR (fun _=> .h) (congrArg (KA V k) (show _=EY (IZ t (Dx j)) (LK t g (Dx j)) from by rw [EY,LK,show IZ t (Dx j)=_ from BJ c2,show M0 t (Dx j)=_ from BJ c2];rfl)) ?_
   refine AK ?_
   refine Gt (Ay rfl rfl (IntWalk.i64_in _ (by first | omega | exact hk.1 | exact hk.2 | (have h1:=Ft t (Dx j);have h2:=IM (t.DR (Dx j)).1 (Dx j);dsimp only [Dx,EY] at *;(try simp only [List.length_nil]);omega)))) ?_
   refine Gm rfl ?_
   refine AT (AB (.t4 0 1 11 12) ?_)
   refine B0 (j+1) _ _ ?_ ?_ (.t4 12 0 1 11) (.refl _)
   · exact⟨by omega,by omega,by rw [HO hI11,← hI13,← hI14],by rw [HO hI11,← hI13,← hI14]⟩
   · omega
  have c2p:=kz c2
  refine Aa ?_
  refine AB (.t6 0 1 6 7 11 12) ?_
  refine AA (AK (Gm rfl (Gm rfl (Gt (Ba rfl) (Gt (Aj Dt rfl) (Gt (AU rfl Cv .m0 ((AQ.A8 V hk.1 hk.2).comp A2.l4) rfl) (Gm rfl ?_)))))))
  refine Gm rfl ?_
  refine Gt (CZ rfl rfl (by first | omega | exact hk.1 | exact hk.2 | (have h1:=Ft t (Dx j);have h2:=IM (t.DR (Dx j)).1 (Dx j);dsimp only [Dx,EY] at *;(try simp only [List.length_nil]);omega))) ?_
  refine BE rfl W5 (.c rfl (.c rfl .n)) (fun w hS=>EW _ _ (by simp only [List.length_append];have h1:=Ft t (Dx j);have h2:=IM (t.DR (Dx j)).1 (Dx j);dsimp only [Dx,EY] at *;(try simp only [List.length_nil]);omega) w) ?_
  refine Gm rfl (Gt (AM rfl rfl) (Gt (AM rfl rfl) (Gt (Ba rfl) (Gt (Aj Dt rfl) ?_))))
  refine AO (AJ ((AQ.A8 V hk.1 hk.2).comp A2.l4) rfl rfl rfl Fb rfl .h) ?_
  refine AT (AB (.t4 0 1 11 12) ?_)
  refine AW (AA ?_)
  refine GR (fun _=> .h) (congrArg (KA V k) (show _=EY (IZ t (Dx j)) (LK t g (Dx j)) from by rw [EY,LK,show IZ t (Dx j)=_ from AX c2,show M0 t (Dx j)=_ from AX c2];rfl)) ?_
  refine AK ?_
  refine Gt (Ay rfl rfl (IntWalk.i64_in _ (by first | omega | exact hk.1 | exact hk.2 | (have h1:=Ft t (Dx j);have h2:=IM (t.DR (Dx j)).1 (Dx j);dsimp only [Dx,EY] at *;(try simp only [List.length_nil]);omega)))) ?_
  refine Gm rfl ?_
  refine AT (AB (.t4 0 1 11 12) ?_)
  refine B0 (j+1) _ _ ?_ ?_ (.t4 12 0 1 11) (.refl _)
  · exact⟨by omega,by omega,by rw [HO hI11,← hI13,← hI14],by rw [HO hI11,← hI13,← hI14]⟩
  · omega
 have c1p:=kz c1
 obtain rfl:j=2:=by omega
 refine Bl (AY (AY (Am ?_)))
 refine AB (.t2 0 1) ?_
 refine AA (Au ?_)
 refine FE A9 9 1 ?_
 refine FE A9 9 1 ?_
 refine FE A9 9 1 ?_
 refine EL (.c (.t (.t .h)) (.c (.t .h) (.c .h (.c .h (.c (.t (.t (.t .h))) .n))))) ?_
 refine HP hk.1 hk.2 (by rfl) (by rfl) (by rfl) ?_
 refine AK (Gm rfl (Gm rfl ?_))
 refine Ah rfl Te (.c rfl (.c rfl (.c rfl .n))) (.c .h (.c .h (.c (.t (.t (.t .h))) .n))) (EM _ (AL.A8 V k (EY t g)) (ls.put k ⟨[],[],[]⟩) ev k _ hk (by rw [Vector.CG hk.1 hk.2];exact Nat.zero_le _)) (fun v4 B hv=>?_)
 obtain⟨y5,y6,y7,rfl,y8,rfl⟩:=hv
 refine Gn (.t1 0) (AK (Gm rfl ?_))
 refine BB rfl SQ (.c rfl .n) (.c .h (.c .h (.c .h .n))) (D2 _ y5 y6 y7 (n+1) m (by rw [y8,(show A4 (AL.A8 V k (EY t g)) (ls.put k ⟨[],[],[]⟩) ev=AH.set (A4 V ls ev) k (Cq (EY t g) Y9) from JB V ls ev hk.1 hk.2 _ _)];exact(hF.comes hk.1 hk.2 t g).tell hk.1 hk.2 (show AH.HZ.length≤_ by decide)) (by omega) (by omega)) (fun w hS=>⟨gl0.pull gm0 hS (.c .h (.c .h (.c .h .n))),gl1.pull gm1 hS (.c .h (.c .h (.c .h .n))),gl2.pull gm2 hS (.c .h (.c .h (.c .h .n))),gl3.pull gm3 hS (.c .h (.c .h (.c .h .n)))⟩) (fun v9 B hv=>?_)
 obtain⟨y10,y11,y12,rfl,y13,rfl⟩:=hv
 refine AT ?_
 refine Bo rfl .n ?_
 intro w1 hS
 have hS:=(hS.perm (Ax.perm (.c .h (.c .h (.c .h .n))))).A3
 refine⟨_,⟨y10,y11,y12,rfl,?ga1,rfl⟩,hS⟩
 case ga1=>rw [y13,y8,(show A4 (AL.A8 V k (EY t g)) (ls.put k ⟨[],[],[]⟩) ev=AH.set (A4 V ls ev) k (Cq (EY t g) Y9) from JB V ls ev hk.1 hk.2 _ _),hI13,hI14];unfold AH.J2;rw [← OK];rfl
theorem E0 {α:Type}{ea:α→List Value}{o:Nat}{g:α→Int}{st:α→Int→α}(b V:Nat)(Y:α)(on:Bool)(opt yes no:Int)(h0:0≤yes∧yes≤255)(h1:0≤no∧no≤255)(h2:0≤opt∧opt≤255)(ln:AQ ea A0 o 1 g st):Jp Tryz.prog 75 #[.pointer (some ⟨b,o,none⟩), .bool on, .int .i64 opt, .int .i64 yes, .int .i64 no] [Af.box b V (ea Y)] (fun v B=>v=BW (AR.It (g Y) on opt yes no)∧B = [Af.box b V (ea (st Y (AR.ZG on)))]):=by
 intro w hS0
 refine Ao _ _ Tryz.func75 rfl rfl rfl (hS0) ?_
 refine Gs (Ga rfl (Gn (.t5 0 1 2 3 4) (Gs (Gm rfl (Gt (Ba rfl) (Gt (AG rfl A5 .m0 ln rfl rfl) (Ga rfl ?_)))))))
 refine Gn (.t6 0 1 2 3 4 11) (Gs (Gm rfl (Gt (Ba rfl) ?_)))
 refine AO (AJ ln rfl rfl rfl DJ rfl .h) ?_
 refine Gn (.t6 0 1 2 3 4 11) (CH (Gm rfl (AT (AA ?_))))
 refine Gc (fun c1=>?_) (fun c1=>?_)
 ·
  have c1p:=kz c1
  refine AK (Gm rfl (Gt (Ba rfl) ?_))
  refine AO (AJ ln rfl rfl rfl DJ rfl .h) ?_
  refine Gn (.t5 1 2 3 4 11) (Au (Ak (Gs (Gm rfl (Gm rfl (Bg 22 rfl rfl (fun q=>AD rfl) (Bg 22 rfl rfl (fun q=>Ai (Bc rfl q) rfl) ?_)))))))
  refine Gt (BM rfl rfl (fun h=>h)) (Ga rfl (Gn (.t6 1 2 3 4 11 20) ?_))
  refine Gc (fun c2=>?_) (fun c2=>?_)
  ·
   have c2p:=kz c2
   refine Gs (Gm rfl (Gm rfl ?_))
   refine BE rfl Sg (.c rfl (.c rfl .n)) (fun w hS=>C6 _ _ (by first | assumption | omega) (by first | assumption | omega) w) ?_
   refine Ga rfl (Gn (.t1 10) (Ae (AS (AE ?_))))
   refine AZ rfl (.tmp rfl .n) ?_
   intro w1 hS
   have hS:=(hS.perm (Ax.perm (.c .h .n))).A3
   exact⟨_,⟨by clear hS;simp_all [AR.It,Vv],by simp only [AR.ZG,ln.Kp,c1,c2,↓reduceIte,Bool.false_eq_true]⟩,hS⟩
  have c2p:=kz c2
  refine Gs (Gm rfl (Gt (BX rfl) (Gm rfl (Bg 32 rfl rfl (fun q=>AD rfl) (Bg 32 rfl rfl (fun q=>Ai (Bc rfl q) rfl) (Gt (BM rfl rfl (fun h=>h)) (Ga rfl ?_)))))))
  refine Gn (.t3 2 4 29) ?_
  refine Gc (fun c3=>?_) (fun c3=>?_)
  ·
   have c3p:=kz c3
   refine Gs (Gm rfl (Gm rfl ?_))
   refine BE rfl Sg (.c rfl (.c rfl .n)) (fun w hS=>C6 _ _ (by first | assumption | omega) (by first | assumption | omega) w) ?_
   refine Ga rfl (Gn (.t1 10) (Ae (AS (AE ?_))))
   refine AZ rfl (.tmp rfl .n) ?_
   intro w1 hS
   have hS:=(hS.perm (Ax.perm (.c .h .n))).A3
   exact⟨_,⟨by clear hS;simp_all [AR.It,Vv],by simp only [AR.ZG,ln.Kp,c1,c2,c3,↓reduceIte,Bool.false_eq_true]⟩,hS⟩
  have c3p:=kz c3
  refine Aa ?_
  refine AB (.nil _) ?_
  refine AW (AA (Gs (Ga rfl (AT (AA (Ae ?_))))))
  refine AZ rfl (.tmp rfl .n) ?_
  intro w1 hS
  have hS:=(hS.perm (Ax.perm (.c .h .n))).A3
  exact⟨_,⟨by clear hS;simp_all [AR.It,Vv],by simp only [AR.ZG,ln.Kp,c1,c2,c3,↓reduceIte,Bool.false_eq_true]⟩,hS⟩
 have c1p:=kz c1
 refine Aa ?_
 refine AB (.t5 1 2 3 4 11) ?_
 refine AA (Au (Ak (Gs (Gm rfl (Gm rfl (Bg 22 rfl rfl (fun q=>AD rfl) (Bg 22 rfl rfl (fun q=>Ai (Bc rfl q) rfl) ?_)))))))
 refine Gt (BM rfl rfl (fun h=>h)) (Ga rfl (Gn (.t6 1 2 3 4 11 20) ?_))
 refine Gc (fun c4=>?_) (fun c4=>?_)
 ·
  have c4p:=kz c4
  refine Gs (Gm rfl (Gm rfl ?_))
  refine BE rfl Sg (.c rfl (.c rfl .n)) (fun w hS=>C6 _ _ (by first | assumption | omega) (by first | assumption | omega) w) ?_
  refine Ga rfl (Gn (.t1 10) (Ae (AS (AE ?_))))
  refine AZ rfl (.tmp rfl .n) ?_
  intro w1 hS
  have hS:=(hS.perm (Ax.perm (.c .h .n))).A3
  exact⟨_,⟨by clear hS;simp_all [AR.It,Vv],by simp only [AR.ZG,ln.Kp,c1,c4,↓reduceIte,Bool.false_eq_true]⟩,hS⟩
 have c4p:=kz c4
 refine Gs (Gm rfl (Gt (BX rfl) (Gm rfl (Bg 32 rfl rfl (fun q=>AD rfl) (Bg 32 rfl rfl (fun q=>Ai (Bc rfl q) rfl) (Gt (BM rfl rfl (fun h=>h)) (Ga rfl ?_)))))))
 refine Gn (.t3 2 4 29) ?_
 refine Gc (fun c5=>?_) (fun c5=>?_)
 ·
  have c5p:=kz c5
  refine Gs (Gm rfl (Gm rfl ?_))
  refine BE rfl Sg (.c rfl (.c rfl .n)) (fun w hS=>C6 _ _ (by first | assumption | omega) (by first | assumption | omega) w) ?_
  refine Ga rfl (Gn (.t1 10) (Ae (AS (AE ?_))))
  refine AZ rfl (.tmp rfl .n) ?_
  intro w1 hS
  have hS:=(hS.perm (Ax.perm (.c .h .n))).A3
  exact⟨_,⟨by clear hS;simp_all [AR.It,Vv],by simp only [AR.ZG,ln.Kp,c1,c4,c5,↓reduceIte,Bool.false_eq_true]⟩,hS⟩
 have c5p:=kz c5
 refine Aa ?_
 refine AB (.nil _) ?_
 refine AW (AA (Gs (Ga rfl (AT (AA (Ae ?_))))))
 refine AZ rfl (.tmp rfl .n) ?_
 intro w1 hS
 have hS:=(hS.perm (Ax.perm (.c .h .n))).A3
 exact⟨_,⟨by clear hS;simp_all [AR.It,Vv],by simp only [AR.ZG,ln.Kp,c1,c4,c5,↓reduceIte,Bool.false_eq_true]⟩,hS⟩
theorem Jm (b:Nat)(X:AR)(verb opt:Int)(h0:0≤opt∧opt≤255):Jp Tryz.prog 56 #[.pointer (some ⟨b,0,none⟩), .int .i64 verb, .int .i64 opt] [Af.box b 69 X.enc] (fun v B=>v=BW (X.B6 verb opt).2∧B = [Af.box b 69 (X.B6 verb opt).1.enc]):=by
 intro w hS0
 refine Ao _ _ Tryz.func56 rfl rfl rfl (hS0) ?_
 refine Gs (Ga rfl (Gn (.t3 0 1 2) (Gs (Gm rfl ?_))))
 refine BE rfl bK (.c rfl .n) (fun w hS=>F0 _ w) ?_
 refine Gm rfl (Gt (AM rfl rfl) (Gt (AM rfl rfl) (Gt (AM rfl rfl) (Ga rfl (Ga rfl (Ga rfl (Gn (.t6 0 1 2 7 8 9) ?_)))))))
 refine CH (Gm rfl (Gn (.t6 0 2 7 8 9 16) (Ak (Gs (Gt (Ai rfl rfl) (Ga rfl (Gn (.t7 0 2 7 8 9 16 17) ?_)))))))
 refine Gc (fun c1=>?_) (fun c1=>?_)
 ·
  have c1p:=kz c1
  refine CH (Gm rfl (Gt (BX rfl) (Gn (.t4 0 2 7 20) ?_)))
  refine Gc (fun c2=>?_) (fun c2=>?_)
  ·
   have c2p:=kz c2
   refine Gs (Gm rfl ?_)
   refine BE rfl Sg (.c rfl (.c rfl .n)) (fun w hS=>C6 _ _ (by first | assumption | omega) (by first | assumption | omega) w) ?_
   refine Ga rfl (Gn (.t1 6) (Ae (AE (AS (AE ?_)))))
   refine AZ rfl (.tmp rfl .n) ?_
   intro w1 hS
   have hS:=(hS.perm (Ax.perm (.c .h .n))).A3
   exact⟨_,⟨by simp only [AR.B6,c1,c2,↓reduceIte,Bool.false_eq_true]<;>rfl,by simp only [AR.B6,c1,c2,↓reduceIte,Bool.false_eq_true]<;>rfl⟩,hS⟩
  have c2p:=kz c2
  have hk:=AR.OD (opt:=opt) (by simpa using c2)
  have hk1:0≤(AR.place opt).1∧(AR.place opt).1 < 3:=by rcases hk with ⟨_,e⟩ | ⟨_,e⟩<;>rw [e]<;>decide
  refine Aa ?_
  refine AB (.t3 0 2 7) ?_
  refine AA (Gs (Gm rfl (Gm rfl (Gt (Ba rfl) (Gt (Aj K2 rfl) ?_)))))
  refine Gt (AV K9 rfl rfl (by omega) (by omega)) ?_
  refine Gm rfl ?_
  refine Ah rfl ZS (.c rfl (.c rfl (.c rfl (.c rfl (.c rfl .n))))) (.c .h .n) (E0 _ _ _ _ _ _ _ (by first | assumption | omega) (by first | assumption | omega) (by first | assumption | omega) (AR.l3.comp (AQ.ar (n:=3) B5 (by omega)))) (fun v1 B hv=>?_)
  obtain⟨rfl,rfl⟩:=hv
  refine Ga rfl (Gn (.t1 6) (Ae (AS (AE ?_))))
  refine AZ rfl (.tmp rfl .n) ?_
  intro w1 hS
  have hS:=(hS.perm (Ax.perm (.c .h .n))).A3
  exact⟨_,⟨by simp only [AR.B6,c1,c2,↓reduceIte,Bool.false_eq_true]<;>rfl,by simp only [AR.B6,c1,c2,↓reduceIte,Bool.false_eq_true]<;>rfl⟩,hS⟩
 have c1p:=kz c1
 refine Gs (Gt (Ai rfl rfl) (Ga rfl (Gn (.t7 0 2 7 8 9 16 30) ?_)))
 refine Gc (fun c3=>?_) (fun c3=>?_)
 ·
  have c3p:=kz c3
  refine Gs (Gm rfl (Gn (.t4 0 2 7 32) ?_))
  refine Gc (fun c4=>?_) (fun c4=>?_)
  ·
   have c4p:=kz c4
   have hk:=AR.OD (opt:=opt) (by simpa using c4)
   have hk1:0≤(AR.place opt).1∧(AR.place opt).1 < 3:=by rcases hk with ⟨_,e⟩ | ⟨_,e⟩<;>rw [e]<;>decide
   refine Gs (Gm rfl (Gm rfl (Gt (Ba rfl) (Gt (Aj K2 rfl) ?_))))
   refine Gt (AV K9 rfl rfl (by omega) (by omega)) ?_
   refine Gm rfl ?_
   refine Ah rfl ZS (.c rfl (.c rfl (.c rfl (.c rfl (.c rfl .n))))) (.c .h .n) (E0 _ _ _ _ _ _ _ (by first | assumption | omega) (by first | assumption | omega) (by first | assumption | omega) (AR.l3.comp (AQ.ar (n:=3) B5 (by omega)))) (fun v2 B hv=>?_)
   obtain⟨rfl,rfl⟩:=hv
   refine Ga rfl (Gn (.t1 6) (Ae (AS (AE ?_))))
   refine AZ rfl (.tmp rfl .n) ?_
   intro w1 hS
   have hS:=(hS.perm (Ax.perm (.c .h .n))).A3
   exact⟨_,⟨by simp only [AR.B6,c1,c3,c4,↓reduceIte,Bool.false_eq_true]<;>rfl,by simp only [AR.B6,c1,c3,c4,↓reduceIte,Bool.false_eq_true]<;>rfl⟩,hS⟩
  refine Aa ?_
  refine AB (.nil _) ?_
  refine AW (AA (Gs (Ga rfl (AT (AA (Ae ?_))))))
  refine AZ rfl (.tmp rfl .n) ?_
  intro w1 hS
  have hS:=(hS.perm (Ax.perm (.c .h .n))).A3
  exact⟨_,⟨by simp only [AR.B6,c1,c3,c4,↓reduceIte,Bool.false_eq_true]<;>rfl,by simp only [AR.B6,c1,c3,c4,↓reduceIte,Bool.false_eq_true]<;>rfl⟩,hS⟩
 have c3p:=kz c3
 refine Gs (Gt (Ai rfl rfl) (Ga rfl (Gn (.t6 0 2 7 9 16 40) ?_)))
 refine Gc (fun c5=>?_) (fun c5=>?_)
 ·
  have c5p:=kz c5
  refine CH (Gm rfl (Gt (BX rfl) (Gn (.t4 0 2 7 43) ?_)))
  refine Gc (fun c6=>?_) (fun c6=>?_)
  ·
   have c6p:=kz c6
   refine Gs (Gm rfl ?_)
   refine BE rfl Sg (.c rfl (.c rfl .n)) (fun w hS=>C6 _ _ (by first | assumption | omega) (by first | assumption | omega) w) ?_
   refine Ga rfl (Gn (.t1 6) (Ae (AE (AS (AE ?_)))))
   refine AZ rfl (.tmp rfl .n) ?_
   intro w1 hS
   have hS:=(hS.perm (Ax.perm (.c .h .n))).A3
   exact⟨_,⟨by simp only [AR.B6,c1,c3,c5,c6,↓reduceIte,Bool.false_eq_true]<;>rfl,by simp only [AR.B6,c1,c3,c5,c6,↓reduceIte,Bool.false_eq_true]<;>rfl⟩,hS⟩
  have c6p:=kz c6
  have hk:=AR.K4 (opt:=opt) (by simpa using c6)
  have hk1:0≤(AR.place opt).1∧(AR.place opt).1 < 3:=by rcases hk with ⟨_,e⟩ | ⟨_,e⟩<;>rw [e]<;>decide
  refine Aa ?_
  refine AB (.t3 0 2 7) ?_
  refine AA (Gs (Gm rfl (Gm rfl (Gt (Ba rfl) (Gt (Aj KQ rfl) ?_)))))
  refine Gt (AV K9 rfl rfl (by omega) (by omega)) ?_
  refine Gm rfl ?_
  refine Ah rfl ZS (.c rfl (.c rfl (.c rfl (.c rfl (.c rfl .n))))) (.c .h .n) (E0 _ _ _ _ _ _ _ (by first | assumption | omega) (by first | assumption | omega) (by first | assumption | omega) (AR.l4.comp (AQ.ar (n:=3) B5 (by omega)))) (fun v3 B hv=>?_)
  obtain⟨rfl,rfl⟩:=hv
  refine Ga rfl (Gn (.t1 6) (Ae (AS (AE ?_))))
  refine AZ rfl (.tmp rfl .n) ?_
  intro w1 hS
  have hS:=(hS.perm (Ax.perm (.c .h .n))).A3
  exact⟨_,⟨by simp only [AR.B6,c1,c3,c5,c6,↓reduceIte,Bool.false_eq_true]<;>rfl,by simp only [AR.B6,c1,c3,c5,c6,↓reduceIte,Bool.false_eq_true]<;>rfl⟩,hS⟩
 have c5p:=kz c5
 refine Gs (Gt (Ai rfl rfl) (Ga rfl (Gn (.t5 0 2 7 9 53) ?_)))
 refine Gc (fun c7=>?_) (fun c7=>?_)
 ·
  have c7p:=kz c7
  refine Gs (Gm rfl (Gn (.t4 0 2 7 55) ?_))
  refine Gc (fun c8=>?_) (fun c8=>?_)
  ·
   have c8p:=kz c8
   have hk:=AR.K4 (opt:=opt) (by simpa using c8)
   have hk1:0≤(AR.place opt).1∧(AR.place opt).1 < 3:=by rcases hk with ⟨_,e⟩ | ⟨_,e⟩<;>rw [e]<;>decide
   refine Gs (Gm rfl (Gm rfl (Gt (Ba rfl) (Gt (Aj KQ rfl) ?_))))
   refine Gt (AV K9 rfl rfl (by omega) (by omega)) ?_
   refine Gm rfl ?_
   refine Ah rfl ZS (.c rfl (.c rfl (.c rfl (.c rfl (.c rfl .n))))) (.c .h .n) (E0 _ _ _ _ _ _ _ (by first | assumption | omega) (by first | assumption | omega) (by first | assumption | omega) (AR.l4.comp (AQ.ar (n:=3) B5 (by omega)))) (fun v4 B hv=>?_)
   obtain⟨rfl,rfl⟩:=hv
   refine Ga rfl (Gn (.t1 6) (Ae (AS (AE ?_))))
   refine AZ rfl (.tmp rfl .n) ?_
   intro w1 hS
   have hS:=(hS.perm (Ax.perm (.c .h .n))).A3
   exact⟨_,⟨by simp only [AR.B6,c1,c3,c5,c7,c8,↓reduceIte,Bool.false_eq_true]<;>rfl,by simp only [AR.B6,c1,c3,c5,c7,c8,↓reduceIte,Bool.false_eq_true]<;>rfl⟩,hS⟩
  refine Aa ?_
  refine AB (.nil _) ?_
  refine AW (AA (Gs (Ga rfl (AT (AA (Ae ?_))))))
  refine AZ rfl (.tmp rfl .n) ?_
  intro w1 hS
  have hS:=(hS.perm (Ax.perm (.c .h .n))).A3
  exact⟨_,⟨by simp only [AR.B6,c1,c3,c5,c7,c8,↓reduceIte,Bool.false_eq_true]<;>rfl,by simp only [AR.B6,c1,c3,c5,c7,c8,↓reduceIte,Bool.false_eq_true]<;>rfl⟩,hS⟩
 refine Aa ?_
 refine AB (.nil _) ?_
 refine AW (AA (Gs (Ga rfl (AT (AA (Ae ?_))))))
 refine AZ rfl (.tmp rfl .n) ?_
 intro w1 hS
 have hS:=(hS.perm (Ax.perm (.c .h .n))).A3
 exact⟨_,⟨by simp only [AR.B6,c1,c3,c5,c7,↓reduceIte,Bool.false_eq_true]<;>rfl,by simp only [AR.B6,c1,c3,c5,c7,↓reduceIte,Bool.false_eq_true]<;>rfl⟩,hS⟩
theorem HK (b:Nat)(X:AR)(c:UInt8)(h0:X.sub.length≤16):Jp Tryz.prog 57 #[.pointer (some ⟨b,0,none⟩), .int .u8 (c.toNat:Int)] [Af.box b 69 X.enc] (fun v B=>v = .tuple #[]∧B = [Af.box b 69 (X.collect c).enc]):=by
 intro w hS0
 refine Ao _ _ Tryz.func57 rfl rfl rfl (hS0) ?_
 refine Gs (Gm rfl (Gt (Ba rfl) (Gt (Aj G8 rfl) (Gt (AG rfl CK .m0 AR.l2 rfl rfl) (Gt (BO rfl Tryz.underlying9 rfl) (Gt (BC rfl rfl) (Gn (.t3 0 1 9) ?_)))))))
 refine Gc (fun c1=>?_) (fun c1=>?_)
 ·
  have c1p:=kz c1
  refine BN (N:=11) [0,1,3,7,0,16,48,127,255,511,1023] mix (by kernel_rfl) rfl ?_
  refine Pf 0 rfl (AD rfl) (Pf 1 rfl (Ba rfl) (Pf 2 rfl (Aj G8 rfl) (Pf 3 rfl (AG rfl CK .m0 AR.l2 rfl rfl) (Pf 4 rfl (AD rfl) ?_))))
  refine Ab 5 rfl (by kernel_rfl) ?_
  refine UG rfl Tryz.underlying105 Vw aN rfl (by decide) (by decide) rfl rfl rfl (fun b1=>?_)
  refine BH rfl ⟨?_,?_⟩
  · exact(Pk (Po rfl (AG rfl CK .m1 AR.l2 rfl rfl) rfl rfl (Po rfl (Aj G8 rfl) rfl rfl (Po rfl (Ba rfl) rfl rfl (Po rfl (AD rfl) rfl rfl Ac)))))
  refine Pf 6 rfl (OH (s:= [c]) rfl Tryz.underlying105 Tryz.underlying9 Tryz.underlying5 rfl (Kn.own .m0)) ?_
  refine Pf 7 rfl (CZ rfl rfl (by simp only [List.length_cons,List.length_nil];omega)) ?_
  refine Pf 8 rfl (Ba rfl) (Pf 9 rfl (Aj G8 rfl) ?_)
  refine Ab 10 rfl (by kernel_rfl) ?_
  refine AO (AJ AR.l2 rfl rfl rfl Et rfl (.t .h)) ?_
  refine A7 rfl ⟨?_,?_⟩
  · exact(Pk (Pk (Pk (Pk (Pk (Pk (Pk (Pk (Pk Ac)))))))))
  refine Az (by kernel_rfl) ?_
  refine Bo rfl .n ?_
  intro w1 hS
  have hS:=(hS.perm (Ax.perm (.c (.t .h) .n))).A3
  exact⟨_,⟨rfl,by simp only [AR.collect,c1,↓reduceIte,Bool.false_eq_true]⟩,hS⟩
 refine Aa ?_
 refine Bo rfl .n ?_
 intro w1 hS
 have hS:=(hS.perm (Ax.perm (.c .h .n))).A3
 exact⟨_,⟨rfl,by simp only [AR.collect,c1,↓reduceIte,Bool.false_eq_true]⟩,hS⟩
theorem Kv (b:Nat)(X:AR):Jp Tryz.prog 58 #[.pointer (some ⟨b,0,none⟩)] [Af.box b 69 X.enc] (fun v B=>v = .tuple #[]∧B = [Af.box b 69 X.measure.enc]):=by
 intro w hS0
 refine Ao _ _ Tryz.func58 rfl rfl rfl (hS0) ?_
 refine Gs (Gm rfl (Gt (Ba rfl) (Gt (Aj G8 rfl) (Gt (AG rfl CK .m0 AR.l2 rfl rfl) (Gt (BO rfl Tryz.underlying9 rfl) (Gt (Ai rfl rfl) (Gm rfl ?_)))))))
 refine Bg 8 rfl rfl (fun q=>AD rfl) (Bg 8 rfl rfl (fun q=>Ba (Bc rfl q)) (Bg 8 rfl rfl (fun q=>Aj G8 (Bc rfl q)) (Bg 8 rfl rfl (fun q=>AG (Bc rfl q) CK .m0 AR.l2 rfl rfl) ?_)))
 refine Bg 8 rfl rfl (fun q=>by have q1:=q;(try simp at q1);exact Bp Tryz.underlying9 (Bc rfl q) rfl (by decide) (by omega)) ?_
 refine Bg 8 rfl rfl (fun q=>Ai (Bc rfl q) rfl) (Gt (BM rfl rfl (fun h=>h)) (Gm rfl (Bg 16 rfl rfl (fun q=>AD rfl) (Bg 16 rfl rfl (fun q=>Ba (Bc rfl q)) (Bg 16 rfl rfl (fun q=>Aj KQ (Bc rfl q)) ?_)))))
 refine Bg 16 rfl rfl (fun q=>AV K9 (Bc rfl q) rfl (by decide) (by decide)) ?_
 refine Bg 16 rfl rfl (fun q=>AG (Bc rfl q) A5 .m0 (AR.l4.comp (AQ.arr (n:=3) B5 (by decide) (by decide))) rfl rfl) ?_
 refine Bg 16 rfl rfl (fun q=>Ai (Bc rfl q) rfl) (Gt (BM rfl rfl (fun h=>h)) (Gn (.t2 0 23) ?_))
 refine Gc (fun c1=>?_) (fun c1=>?_)
 ·
  have c1p:=kz c1
  refine BN (N:=19) [0,0,2,6,14,30,62,126,0,256,768,1792,3840,7936,16382,32766,65535,131071,262143] mix (by kernel_rfl) rfl ?_
  refine Pf 0 rfl (AD rfl) (Pf 1 rfl (AD rfl) (Pf 2 rfl (Ba rfl) (Pf 3 rfl (Aj G8 rfl) (Pf 4 rfl (AG rfl CK .m0 AR.l2 rfl rfl) ?_))))
  refine Pf 5 rfl (Bp Tryz.underlying9 rfl rfl (by decide) (by omega)) ?_
  refine Pf 6 rfl (Tv Tryz.underlying3 Tryz.underlying5 rfl) (Pf 7 rfl (ZP rfl rfl) (Pf 8 rfl (AD rfl) (Pf 9 rfl (Ba rfl) (Pf 10 rfl (Aj G8 rfl) (Pf 11 rfl (AG rfl CK .m0 AR.l2 rfl rfl) ?_)))))
  refine Pf 12 rfl (Bp Tryz.underlying9 rfl rfl (by decide) (by omega)) ?_
  refine Pf 13 rfl (Tv Tryz.underlying3 Tryz.underlying5 rfl) (Pf 14 rfl (bI rfl rfl) (Pf 15 rfl (Ki rfl rfl) (Pf 16 rfl (Ba rfl) (Pf 17 rfl (Aj Ri rfl) ?_))))
  refine Ab 18 rfl (by kernel_rfl) ?_
  refine AO (AJ AR.l5 rfl rfl rfl DJ rfl .h) ?_
  refine A7 rfl ⟨?_,?_⟩
  · exact(Pk (Pk (Pk (Pk (Pk (Pk (Pk (Pk (Pk (Pk (Pk (Pk (Pk (Pk (Pk (Pk (Pk (Pk Ac))))))))))))))))))
  refine Az (by kernel_rfl) ?_
  refine Bo rfl .n ?_
  intro w1 hS
  have hS:=(hS.perm (Ax.perm (.c .h .n))).A3
  exact⟨_,⟨rfl,by rw [show X.measure=_ from BJ c1];rfl⟩,hS⟩
 refine Aa ?_
 refine Bo rfl .n ?_
 intro w1 hS
 have hS:=(hS.perm (Ax.perm (.c .h .n))).A3
 exact⟨_,⟨rfl,by rw [show X.measure=_ from AX c1]⟩,hS⟩
theorem Mw (X:AR)(u:As)(hu:u.length≤140737488351232)(w:World):Ee Tryz.prog 29 #[.agg X.enc.toArray,BW u] w fun v w'=>v = .tuple #[.agg (X.DY u).1.enc.toArray,BW (X.DY u).2.1,BW (X.DY u).2.2.1, .int .i64 (X.DY u).2.2.2]∧B9 w w':=by
 refine Ao [] [] Tryz.func29 rfl rfl rfl (St.start w []) ?_
 refine Gs ?_
 refine B4 rfl rfl rfl (fun b1=>?_)
 refine A6 rfl aY rfl (fun b2=>?_)
 refine Ga rfl (Ga rfl (Ga rfl (Gn (.t3 1 2 4) (CH (Gt (AU rfl EC .m1 (AQ.id AR.fl.len AR.fl.one) rfl) ?_)))))
 refine BE rfl aT (.c rfl .n) (fun w hS=>GU _ w) ?_
 refine Gt (BX rfl) (Gn (.t4 1 2 4 15) ?_)
 refine Gc (fun c1=>?_) (fun c1=>?_)
 ·
  refine Gs (Gt (AU rfl EC .m1 (AQ.id AR.fl.len AR.fl.one) rfl) ?_)
  refine AO (AJ (AQ.id AR.fl.len AR.fl.one) rfl rfl rfl Kt rfl .h) ?_
  refine Ga rfl (Ga rfl (Ga rfl (Gn (.t4 4 5 6 7) (Ae (AE ?_)))))
  refine AZ rfl (.cell rfl .m0 (.inl ⟨(by rw [AR.fl.len];exact EC),rfl⟩) (.tmp rfl (.tmp rfl (.tmp rfl .n)))) ?_
  intro w1 hS;refine⟨?_,hS.Al⟩;rw [show X.DY u=_ from BJ c1];rfl
 have c1p:=kz c1
 have hg:X.Bk=true:=by simpa using c1
 refine Aa ?_
 refine AB (.t3 1 2 4) ?_
 refine AA (Gs ?_)
 refine A6 rfl Ui rfl (fun b3=>?_)
 refine Df DV 5 1 ?_
 refine A6 rfl Ui rfl (fun b4=>?_)
 refine Df DV 5 1 ?_
 refine AT (AA (CH (Gm rfl ?_)))
 refine PE rfl Tryz.underlying9 Tryz.underlying105 Tryz.underlying5 rfl (fun h1 h1l=>?_)
 refine Gt (Av rfl Tryz.underlying105 rfl) (Gm rfl (Gn (.t7 2 4 8 9 18 19 20) (Ak ?_)))
 refine Bt (.t7 20 2 4 8 9 18 19) ?_
 refine BZ (.t (.t (.t (.t (.t (.t .h)))))) ?_
 refine BZ (.t (.t (.t (.t (.t .h))))) ?_
 refine BZ (.t (.t (.t (.t (.t .h))))) ?_
 refine BZ (.t (.t (.t (.t (.t .h))))) ?_
 refine BZ (.t (.t (.t (.t (.t .h))))) ?_
 refine Su (fun(k:Int) (t:AR) (x:As) (y:As) (p:Option Addr) (h:Hd) (q:Option Addr) (g:Hd)=>AR.KF X u k t x y∧(p=none∨p=some ⟨b3,0,none⟩)∧h.Z∧h.len=x.length∧(q=none∨q=some ⟨b4,0,none⟩)∧g.Z∧g.len=y.length) (fun(k:Int) (t:AR) (x:As) (y:As) (p:Option Addr) (h:Hd) (q:Option Addr) (g:Hd)=>((u.length:Int) - k).toNat) (fun(k:Int) (t:AR) (x:As) (y:As) (p:Option Addr) (h:Hd) (q:Option Addr) (g:Hd)=> [(20, .int .i64 k)]) (fun(k:Int) (t:AR) (x:As) (y:As) (p:Option Addr) (h:Hd) (q:Option Addr) (g:Hd)=> [Af.own g 5 1 (y.flatMap DV),Af.box b4 107 (Db.enc ⟨q,g⟩),Af.own h 5 1 (x.flatMap DV),Af.box b3 107 (Db.enc ⟨p,h⟩),Af.box b1 69 (AR.enc t)]) (0) (X) ([]) ([]) (none) (⟨none,0,0⟩) (none) (⟨none,0,0⟩) ?_ rfl rfl (fun k t x y p h q g hI1=>?_)
 · exact⟨AR.KF.start (AR.XO hg), .inl rfl,Hd.VE,rfl, .inl rfl,Hd.VE,rfl⟩
 obtain⟨hI11,hp,hz,hl,hq,hzg,hlg⟩:=hI1;have hk0:=hI11.k0;have hk1:=hI11.k1;have hsub:=hI11.sub;have hxl:=hI11.xl;have hyl:=hI11.yl;have hc8:=(u.getD k.toNat 0).toNat_lt;have hyb:=hI11.yb
 refine Gs (Gt (BC rfl rfl) (AT (AA (Au ?_))))
 refine Gc (fun c2=>?_) (fun c2=>?_)
 ·
  have c2p:=kz c2
  refine Aa ?_
  refine AB (.t7 2 4 8 9 18 19 20) ?_
  refine AA (Au (Ak (Gs ?_)))
  refine Gt (Bs Xy (by decide) (Kn.own .m5) rfl rfl (by omega) (by omega)) ?_
  refine Gt (X4 rfl dh (Kn.own .m5) (by omega)) ?_
  refine Ga rfl (Gn (.t8 2 4 8 9 11 18 19 20) (Gs (Gm rfl (Gt (Tv Tryz.underlying3 Tryz.underlying5 rfl) (Ga rfl (Gn (.t9 2 4 8 9 11 12 18 19 20) (Gs ?_)))))))
  refine Gt (Aj F1 rfl) (Gt (AG rfl A5 .m4 AR.l0 rfl rfl) (Gn (.t10 2 4 8 9 11 12 18 19 20 27) (Ak (Gs (Gt (Ai rfl rfl) (Ga rfl (Gn (.t11 2 4 8 9 11 12 18 19 20 27 28) ?_)))))))
  refine Gc (fun c3=>?_) (fun c3=>?_)
  ·
   have c3p:=kz c3
   refine Gs (Gm rfl (Gt (Ai rfl rfl) (Gn (.t9 2 4 8 9 11 18 19 20 31) ?_)))
   refine Gc (fun c4=>?_) (fun c4=>?_)
   ·
    have c4p:=kz c4
    refine AK (Gt (Aj F1 rfl) ?_)
    refine AO (AJ AR.l0 rfl rfl rfl DJ rfl (.t (.t (.t (.t .h))))) ?_
    refine AT (AB (.t7 2 4 8 9 18 19 20) ?_)
    refine AW (AW (AA (AK ?_)))
    refine Gt (Ay rfl rfl (IntWalk.i64_in _ (by omega))) ?_
    refine Gm rfl ?_
    refine AT (AB (.t7 2 4 8 9 18 19 20) ?_)
    refine CX _ _ _ _ _ _ _ _ ?_ ?_ (.t7 20 2 4 8 9 18 19) (.refl _)
    · exact⟨hI11.next (by omega) (by simp only [AR.step,c1,c2,c3,c4,↓reduceIte,Bool.false_eq_true]) (by simp only [AR.step,c1,c2,c3,c4,List.append_nil,↓reduceIte,Bool.false_eq_true]) (by simp only [AR.step,c1,c2,c3,c4,List.append_nil,↓reduceIte,Bool.false_eq_true]),by assumption,by assumption,by assumption,by assumption,by assumption,by assumption⟩
    · omega
   have c4p:=kz c4
   refine AK (Gm rfl ?_)
   refine Ah rfl Zt (.c rfl (.c rfl .n)) (.c (.t (.t (.t .h))) (.c (.t (.t .h)) .n)) (Cl _ _ _ _ (by assumption) (by assumption) (by assumption) _ (by omega)) (fun v2 B hv=>?_)
   obtain⟨y3,y4,rfl,y5,y6,y7,rfl⟩:=hv
   refine AT (AB (.t7 2 4 8 9 18 19 20) ?_)
   refine AW (AW (AA (AK ?_)))
   refine Gt (Ay rfl rfl (IntWalk.i64_in _ (by omega))) ?_
   refine Gm rfl ?_
   refine AT (AB (.t7 2 4 8 9 18 19 20) ?_)
   refine Bx (.c (.t (.t .h)) (.c (.t (.t .h)) (.c (.t .h) (.c .h (.c .h (.c .h (.c .h .n))))))) ?_
   refine B3 ?_
   refine CX _ _ _ _ _ _ _ _ ?_ ?_ (.t7 20 2 4 8 9 18 19) (.refl _)
   · exact⟨hI11.next (by omega) (by simp only [AR.step,c1,c2,c3,c4,↓reduceIte,Bool.false_eq_true]) (by simp only [AR.step,c1,c2,c3,c4,List.append_nil,↓reduceIte,Bool.false_eq_true]) (by simp only [AR.step,c1,c2,c3,c4,List.append_nil,↓reduceIte,Bool.false_eq_true]),by assumption,by assumption,by assumption,by assumption,by assumption,by assumption⟩
   · omega
  have c3p:=kz c3
  refine Gs (Gt (Ai rfl rfl) (Ga rfl (Gn (.t11 2 4 8 9 11 12 18 19 20 27 35) ?_)))
  refine Gc (fun c5=>?_) (fun c5=>?_)
  ·
   have c5p:=kz c5
   refine Gs (Gt (Aj F1 rfl) ?_)
   refine AO (AJ AR.l0 rfl rfl rfl DJ rfl (.t (.t (.t (.t .h))))) ?_
   refine Gn (.t9 2 4 8 9 11 12 18 19 20) (Ak (Gs (Gm rfl (Gt (Ai rfl rfl) (Ga rfl (Gn (.t10 2 4 8 9 11 12 18 19 20 38) ?_))))))
   refine Gc (fun c6=>?_) (fun c6=>?_)
   ·
    have c6p:=kz c6
    refine AK (Gm rfl ?_)
    refine Ah rfl Zt (.c rfl (.c rfl .n)) (.c (.t (.t (.t .h))) (.c (.t (.t .h)) .n)) (Cl _ _ _ _ (by assumption) (by assumption) (by assumption) _ (by omega)) (fun v8 B hv=>?_)
    obtain⟨y9,y10,rfl,y11,y12,y13,rfl⟩:=hv
    refine AT (AB (.t7 2 4 8 9 18 19 20) ?_)
    refine AW (AW (AW (AA (AK ?_))))
    refine Gt (Ay rfl rfl (IntWalk.i64_in _ (by omega))) ?_
    refine Gm rfl ?_
    refine AT (AB (.t7 2 4 8 9 18 19 20) ?_)
    refine Bx (.c (.t (.t .h)) (.c (.t (.t .h)) (.c (.t .h) (.c .h (.c .h (.c .h (.c .h .n))))))) ?_
    refine B3 ?_
    refine CX _ _ _ _ _ _ _ _ ?_ ?_ (.t7 20 2 4 8 9 18 19) (.refl _)
    · exact⟨hI11.next (by omega) (by simp only [AR.step,c1,c2,c3,c5,c6,↓reduceIte,Bool.false_eq_true]) (by simp only [AR.step,c1,c2,c3,c5,c6,List.append_nil,↓reduceIte,Bool.false_eq_true]) (by simp only [AR.step,c1,c2,c3,c5,c6,List.append_nil,↓reduceIte,Bool.false_eq_true]),by assumption,by assumption,by assumption,by assumption,by assumption,by assumption⟩
    · omega
   have c6p:=kz c6
   refine Gs (Gm rfl (Gt (Ai rfl rfl) (Ga rfl (Gn (.t9 2 4 8 9 12 18 19 20 43) ?_))))
   refine Gc (fun c7=>?_) (fun c7=>?_)
   ·
    have c7p:=kz c7
    refine AK (Gt (Aj F1 rfl) ?_)
    refine AO (AJ AR.l0 rfl rfl rfl DJ rfl (.t (.t (.t (.t .h))))) ?_
    refine AT (AB (.t7 2 4 8 9 18 19 20) ?_)
    refine AW (AW (AW (AA (AK ?_))))
    refine Gt (Ay rfl rfl (IntWalk.i64_in _ (by omega))) ?_
    refine Gm rfl ?_
    refine AT (AB (.t7 2 4 8 9 18 19 20) ?_)
    refine CX _ _ _ _ _ _ _ _ ?_ ?_ (.t7 20 2 4 8 9 18 19) (.refl _)
    · exact⟨hI11.next (by omega) (by simp only [AR.step,c1,c2,c3,c5,c6,c7,↓reduceIte,Bool.false_eq_true]) (by simp only [AR.step,c1,c2,c3,c5,c6,c7,List.append_nil,↓reduceIte,Bool.false_eq_true]) (by simp only [AR.step,c1,c2,c3,c5,c6,c7,List.append_nil,↓reduceIte,Bool.false_eq_true]),by assumption,by assumption,by assumption,by assumption,by assumption,by assumption⟩
    · omega
   have c7p:=kz c7
   refine Gs (Gm rfl (Gt (CO rfl rfl) (Ga rfl (Gn (.t9 2 4 8 9 12 18 19 20 47) ?_))))
   refine Gc (fun c8=>?_) (fun c8=>?_)
   ·
    have c8p:=kz c8
    refine AK (Gm rfl (Gt (Aj F1 rfl) ?_))
    refine AO (AJ AR.l0 rfl rfl rfl DJ rfl (.t (.t (.t (.t .h))))) ?_
    refine Gt (Aj K6 rfl) ?_
    refine AO (AJ AR.l1 rfl rfl rfl DJ rfl (.t (.t (.t (.t .h))))) ?_
    refine AT (AB (.t7 2 4 8 9 18 19 20) ?_)
    refine AW (AW (AW (AA (AK ?_))))
    refine Gt (Ay rfl rfl (IntWalk.i64_in _ (by omega))) ?_
    refine Gm rfl ?_
    refine AT (AB (.t7 2 4 8 9 18 19 20) ?_)
    refine CX _ _ _ _ _ _ _ _ ?_ ?_ (.t7 20 2 4 8 9 18 19) (.refl _)
    · exact⟨hI11.next (by omega) (by simp only [AR.step,c1,c2,c3,c5,c6,c7,c8,↓reduceIte,Bool.false_eq_true]) (by simp only [AR.step,c1,c2,c3,c5,c6,c7,c8,List.append_nil,↓reduceIte,Bool.false_eq_true]) (by simp only [AR.step,c1,c2,c3,c5,c6,c7,c8,List.append_nil,↓reduceIte,Bool.false_eq_true]),by assumption,by assumption,by assumption,by assumption,by assumption,by assumption⟩
    · omega
   have c8p:=kz c8
   refine Aa ?_
   refine AB (.t7 2 4 8 9 18 19 20) ?_
   refine AW (AW (AW (AA (AK ?_))))
   refine Gt (Ay rfl rfl (IntWalk.i64_in _ (by omega))) ?_
   refine Gm rfl ?_
   refine AT (AB (.t7 2 4 8 9 18 19 20) ?_)
   refine CX _ _ _ _ _ _ _ _ ?_ ?_ (.t7 20 2 4 8 9 18 19) (.refl _)
   · exact⟨hI11.next (by omega) (by simp only [AR.step,c1,c2,c3,c5,c6,c7,c8,↓reduceIte,Bool.false_eq_true]) (by simp only [AR.step,c1,c2,c3,c5,c6,c7,c8,List.append_nil,↓reduceIte,Bool.false_eq_true]) (by simp only [AR.step,c1,c2,c3,c5,c6,c7,c8,List.append_nil,↓reduceIte,Bool.false_eq_true]),by assumption,by assumption,by assumption,by assumption,by assumption,by assumption⟩
   · omega
  have c5p:=kz c5
  refine Gs (Gt (Ai rfl rfl) (Ga rfl (Gn (.t11 2 4 8 9 11 12 18 19 20 27 53) ?_)))
  refine Gc (fun c9=>?_) (fun c9=>?_)
  ·
   have c9p:=kz c9
   refine Gs (Gt (Aj K6 rfl) (Gt (AG rfl A5 .m4 AR.l1 rfl rfl) (Gm rfl ?_)))
   refine Ah rfl fI (.c rfl (.c rfl (.c rfl .n))) (.c (.t (.t (.t (.t .h)))) .n) (Jm _ _ _ _ (by first | assumption | omega)) (fun v14 B hv=>?_)
   obtain⟨rfl,rfl⟩:=hv
   refine Ah rfl Pp (.c rfl (.c rfl .n)) (.c (.t (.t .h)) (.c (.t .h) .n)) (BR _ _ _ _ (by assumption) (by assumption) (by assumption) _ (by have:=AR.IY t t.verb ((u.getD k.toNat 0).toNat:Int);omega)) (fun v15 B hv=>?_)
   obtain⟨y16,y17,rfl,y18,y19,y20,rfl⟩:=hv
   refine Gn (.t7 2 4 8 9 18 19 20) (AK (Gt (Aj F1 rfl) ?_))
   refine AO (AJ AR.l0 rfl rfl rfl DJ rfl (.t (.t .h))) ?_
   refine Gt (Aj K6 rfl) ?_
   refine AO (AJ AR.l1 rfl rfl rfl DJ rfl (.t (.t .h))) ?_
   refine AT (AB (.t7 2 4 8 9 18 19 20) ?_)
   refine AW (AW (AA (AK ?_)))
   refine Gt (Ay rfl rfl (IntWalk.i64_in _ (by omega))) ?_
   refine Gm rfl ?_
   refine AT (AB (.t7 2 4 8 9 18 19 20) ?_)
   refine Bx (.c (.t .h) (.c .h (.c (.t .h) (.c (.t .h) (.c .h (.c .h (.c .h .n))))))) ?_
   refine B3 ?_
   refine CX _ _ _ _ _ _ _ _ ?_ ?_ (.t7 20 2 4 8 9 18 19) (.refl _)
   · exact⟨hI11.next (by omega) (by simp only [AR.step,c1,c2,c3,c5,c9,↓reduceIte,Bool.false_eq_true]) (by simp only [AR.step,c1,c2,c3,c5,c9,List.append_nil,↓reduceIte,Bool.false_eq_true]) (by simp only [AR.step,c1,c2,c3,c5,c9,List.append_nil,↓reduceIte,Bool.false_eq_true]),by assumption,by assumption,by assumption,by assumption,by assumption,by assumption⟩
   · omega
  have c9p:=kz c9
  refine Gs (Gt (Ai rfl rfl) (Ga rfl (Gn (.t11 2 4 8 9 11 12 18 19 20 27 62) ?_)))
  refine Gc (fun c10=>?_) (fun c10=>?_)
  ·
   have c10p:=kz c10
   refine Gs (Gm rfl (Gt (Ai rfl rfl) (Gn (.t9 2 4 8 9 11 18 19 20 65) ?_)))
   refine Gc (fun c11=>?_) (fun c11=>?_)
   ·
    have c11p:=kz c11
    refine AK (Gt (Aj F1 rfl) ?_)
    refine AO (AJ AR.l0 rfl rfl rfl DJ rfl (.t (.t (.t (.t .h))))) ?_
    refine AT (AB (.t7 2 4 8 9 18 19 20) ?_)
    refine AW (AW (AA (AK ?_)))
    refine Gt (Ay rfl rfl (IntWalk.i64_in _ (by omega))) ?_
    refine Gm rfl ?_
    refine AT (AB (.t7 2 4 8 9 18 19 20) ?_)
    refine CX _ _ _ _ _ _ _ _ ?_ ?_ (.t7 20 2 4 8 9 18 19) (.refl _)
    · exact⟨hI11.next (by omega) (by simp only [AR.step,c1,c2,c3,c5,c9,c10,c11,↓reduceIte,Bool.false_eq_true]) (by simp only [AR.step,c1,c2,c3,c5,c9,c10,c11,List.append_nil,↓reduceIte,Bool.false_eq_true]) (by simp only [AR.step,c1,c2,c3,c5,c9,c10,c11,List.append_nil,↓reduceIte,Bool.false_eq_true]),by assumption,by assumption,by assumption,by assumption,by assumption,by assumption⟩
    · omega
   have c11p:=kz c11
   refine AK (Gm rfl ?_)
   refine Ah rfl ch (.c rfl (.c rfl .n)) (.c (.t (.t (.t (.t .h)))) .n) (HK _ _ _ (by first | assumption | omega)) (fun v21 B hv=>?_)
   obtain⟨rfl,rfl⟩:=hv
   refine AT (AB (.t7 2 4 8 9 18 19 20) ?_)
   refine AW (AW (AA (AK ?_)))
   refine Gt (Ay rfl rfl (IntWalk.i64_in _ (by omega))) ?_
   refine Gm rfl ?_
   refine AT (AB (.t7 2 4 8 9 18 19 20) ?_)
   refine Bx (.c (.t .h) (.c (.t .h) (.c (.t .h) (.c (.t .h) (.c .h (.c .h (.c .h .n))))))) ?_
   refine B3 ?_
   refine CX _ _ _ _ _ _ _ _ ?_ ?_ (.t7 20 2 4 8 9 18 19) (.refl _)
   · exact⟨hI11.next (by omega) (by simp only [AR.step,c1,c2,c3,c5,c9,c10,c11,↓reduceIte,Bool.false_eq_true]) (by simp only [AR.step,c1,c2,c3,c5,c9,c10,c11,List.append_nil,↓reduceIte,Bool.false_eq_true]) (by simp only [AR.step,c1,c2,c3,c5,c9,c10,c11,List.append_nil,↓reduceIte,Bool.false_eq_true]),by assumption,by assumption,by assumption,by assumption,by assumption,by assumption⟩
   · omega
  have c10p:=kz c10
  refine Gs (Gt (Ai rfl rfl) (Ga rfl (Gn (.t10 2 4 8 9 11 12 18 19 20 69) ?_)))
  refine Gc (fun c12=>?_) (fun c12=>?_)
  ·
   have c12p:=kz c12
   refine Gs (Gm rfl (Gn (.t10 2 4 8 9 11 12 18 19 20 71) (Ak (Gs (Gt (Ai rfl rfl) (Ga rfl (Gn (.t10 2 4 8 9 11 12 18 19 20 77) ?_)))))))
   refine Gc (fun c13=>?_) (fun c13=>?_)
   ·
    have c13p:=kz c13
    refine Gs (Gt (Aj F1 rfl) ?_)
    refine AO (AJ AR.l0 rfl rfl rfl DJ rfl (.t (.t (.t (.t .h))))) ?_
    refine Gn (.t8 2 4 8 9 11 18 19 20) (AK (Gm rfl ?_))
    refine Ah rfl ch (.c rfl (.c rfl .n)) (.c (.t (.t (.t (.t .h)))) .n) (HK _ _ _ (by first | assumption | omega)) (fun v22 B hv=>?_)
    obtain⟨rfl,rfl⟩:=hv
    refine AT (AB (.t7 2 4 8 9 18 19 20) ?_)
    refine AW (AW (AW (AA (AK ?_))))
    refine Gt (Ay rfl rfl (IntWalk.i64_in _ (by omega))) ?_
    refine Gm rfl ?_
    refine AT (AB (.t7 2 4 8 9 18 19 20) ?_)
    refine Bx (.c (.t .h) (.c (.t .h) (.c (.t .h) (.c (.t .h) (.c .h (.c .h (.c .h .n))))))) ?_
    refine B3 ?_
    refine CX _ _ _ _ _ _ _ _ ?_ ?_ (.t7 20 2 4 8 9 18 19) (.refl _)
    · exact⟨hI11.next (by omega) (by simp only [AR.step,c1,c2,c3,c5,c9,c10,c12,c13,↓reduceIte,Bool.false_eq_true]) (by simp only [AR.step,c1,c2,c3,c5,c9,c10,c12,c13,List.append_nil,↓reduceIte,Bool.false_eq_true]) (by simp only [AR.step,c1,c2,c3,c5,c9,c10,c12,c13,List.append_nil,↓reduceIte,Bool.false_eq_true]),by assumption,by assumption,by assumption,by assumption,by assumption,by assumption⟩
    · omega
   have c13p:=kz c13
   refine CH (Gm rfl (Gt (Ai rfl rfl) (Gn (.t8 2 4 8 9 18 19 20 73) ?_)))
   refine Gc (fun c14=>?_) (fun c14=>?_)
   ·
    have c14p:=kz c14
    refine AK ?_
    refine Ah rfl fE (.c rfl .n) (.c (.t (.t (.t (.t .h)))) .n) (Kv _ _) (fun v23 B hv=>?_)
    obtain⟨rfl,rfl⟩:=hv
    refine Gn (.t7 2 4 8 9 18 19 20) (AK (Gt (Aj F1 rfl) ?_))
    refine AO (AJ AR.l0 rfl rfl rfl DJ rfl .h) ?_
    refine Gt (Aj G8 rfl) ?_
    refine AO (AJ AR.l2 rfl rfl rfl Et rfl .h) ?_
    refine AT (AB (.t7 2 4 8 9 18 19 20) ?_)
    refine AW (AW (AW (AA (AK ?_))))
    refine Gt (Ay rfl rfl (IntWalk.i64_in _ (by omega))) ?_
    refine Gm rfl ?_
    refine AT (AB (.t7 2 4 8 9 18 19 20) ?_)
    refine Bx (.c (.t .h) (.c (.t .h) (.c (.t .h) (.c (.t .h) (.c .h (.c .h (.c .h .n))))))) ?_
    refine B3 ?_
    refine CX _ _ _ _ _ _ _ _ ?_ ?_ (.t7 20 2 4 8 9 18 19) (.refl _)
    · exact⟨hI11.next (by omega) (by simp only [AR.step,c1,c2,c3,c5,c9,c10,c12,c13,c14,↓reduceIte,Bool.false_eq_true]) (by simp only [AR.step,c1,c2,c3,c5,c9,c10,c12,c13,c14,List.append_nil,↓reduceIte,Bool.false_eq_true]) (by simp only [AR.step,c1,c2,c3,c5,c9,c10,c12,c13,c14,List.append_nil,↓reduceIte,Bool.false_eq_true]),by assumption,by assumption,by assumption,by assumption,by assumption,by assumption⟩
    · omega
   have c14p:=kz c14
   refine Aa ?_
   refine AB (.t7 2 4 8 9 18 19 20) ?_
   refine AA (AK (Gt (Aj F1 rfl) ?_))
   refine AO (AJ AR.l0 rfl rfl rfl DJ rfl (.t (.t (.t (.t .h))))) ?_
   refine Gt (Aj G8 rfl) ?_
   refine AO (AJ AR.l2 rfl rfl rfl Et rfl (.t (.t (.t (.t .h))))) ?_
   refine AT (AB (.t7 2 4 8 9 18 19 20) ?_)
   refine AW (AW (AW (AA (AK ?_))))
   refine Gt (Ay rfl rfl (IntWalk.i64_in _ (by omega))) ?_
   refine Gm rfl ?_
   refine AT (AB (.t7 2 4 8 9 18 19 20) ?_)
   refine CX _ _ _ _ _ _ _ _ ?_ ?_ (.t7 20 2 4 8 9 18 19) (.refl _)
   · exact⟨hI11.next (by omega) (by simp only [AR.step,c1,c2,c3,c5,c9,c10,c12,c13,c14,↓reduceIte,Bool.false_eq_true]) (by simp only [AR.step,c1,c2,c3,c5,c9,c10,c12,c13,c14,List.append_nil,↓reduceIte,Bool.false_eq_true]) (by simp only [AR.step,c1,c2,c3,c5,c9,c10,c12,c13,c14,List.append_nil,↓reduceIte,Bool.false_eq_true]),by assumption,by assumption,by assumption,by assumption,by assumption,by assumption⟩
   · omega
  have c12p:=kz c12
  refine Aa ?_
  refine AB (.t7 2 4 8 9 18 19 20) ?_
  refine AW (AW (AA (AK ?_)))
  refine Gt (Ay rfl rfl (IntWalk.i64_in _ (by omega))) ?_
  refine Gm rfl ?_
  refine AT (AB (.t7 2 4 8 9 18 19 20) ?_)
  refine CX _ _ _ _ _ _ _ _ ?_ ?_ (.t7 20 2 4 8 9 18 19) (.refl _)
  · exact⟨hI11.next (by omega) (by simp only [AR.step,c1,c2,c3,c5,c9,c10,c12,↓reduceIte,Bool.false_eq_true]) (by simp only [AR.step,c1,c2,c3,c5,c9,c10,c12,List.append_nil,↓reduceIte,Bool.false_eq_true]) (by simp only [AR.step,c1,c2,c3,c5,c9,c10,c12,List.append_nil,↓reduceIte,Bool.false_eq_true]),by assumption,by assumption,by assumption,by assumption,by assumption,by assumption⟩
  · omega
 have c2p:=kz c2
 refine Bl (AY (AY (Am ?_)))
 refine AB (.t4 2 4 8 9) ?_
 refine AA (Au ?_)
 refine BN (N:=7) [0,0,2,7,15,31,63] mix (by kernel_rfl) rfl ?_
 refine Pf 0 rfl (AU rfl EC .m4 (AQ.id AR.fl.len AR.fl.one) rfl) ?_
 refine Ab 1 rfl (by kernel_rfl) ?_
 refine Ah rfl Zg (.c rfl .n) (.c (.t (.t (.t .h))) (.c (.t (.t .h)) .n)) (Cy _ _ _ _ (by assumption) (by assumption) (by omega)) (fun v24 B hv=>?_)
 obtain⟨rfl,rfl⟩:=hv
 refine BH rfl ⟨?_,?_⟩
 · exact(Po rfl (AU rfl EC .m3 (AQ.id AR.fl.len AR.fl.one) rfl) rfl rfl Ac)
 refine Ab 2 rfl (by kernel_rfl) ?_
 refine Ah rfl Zg (.c rfl .n) (.c (.t (.t .h)) (.c (.t .h) .n)) (Cy _ _ _ _ (by assumption) (by assumption) (by omega)) (fun v25 B hv=>?_)
 obtain⟨rfl,rfl⟩:=hv
 refine BH rfl ⟨?_,?_⟩
 · exact(Po rfl (AU rfl EC .m2 (AQ.id AR.fl.len AR.fl.one) rfl) rfl rfl Ac)
 refine Ab 3 rfl (by kernel_rfl) ?_
 refine AO (AJ (AQ.id AR.fl.len AR.fl.one) rfl rfl rfl Kt rfl (.t (.t (.t (.t .h))))) ?_
 refine A7 rfl ⟨?_,?_⟩
 · exact(Pk Ac)
 refine Pf 4 rfl (A1 rfl) (Pf 5 rfl (A1 rfl) (Pf 6 rfl (A1 rfl) ?_))
 refine Az (by kernel_rfl) ?_
 refine AB (.t4 4 5 6 7) ?_
 refine AA (Ae ?_)
 refine AZ rfl (.cell rfl .m4 (.inl ⟨(by rw [AR.fl.len];exact EC),rfl⟩) (.tmp rfl (.tmp rfl (.tmp rfl .n)))) ?_
 intro w1 hS;refine⟨?_,hS.Al⟩;rw [show X.DY u=_ from AX c1,hI11.done (by omega)];rfl
theorem HB (b:UInt8)(w:World):Ee Tryz.prog 70 #[.int .u8 (b.toNat:Int)] w fun v w'=>v = .bool (Bj.F2 b)∧B9 w w':=by
 refine Ao [] [] Tryz.func70 rfl rfl rfl (St.start w []) ?_
 refine Gs (Ga rfl (Gn (.t1 0) (Gs (Gm rfl (Gt (CO rfl rfl) (Gm rfl (Bg 5 rfl rfl (fun q=>AD rfl) ?_)))))))
 refine Bg 5 rfl rfl (fun q=>BC (Bc rfl q) rfl) (Gt (BM rfl rfl (fun h=>h)) (Ga rfl (Gn (.t1 2) (Ae ?_))))
 refine AZ rfl (.tmp rfl .n) ?_
 intro w1 hS;refine⟨?_,hS.Al⟩;rfl
end Go.Proofs.YtoidpggbbfncpaaGreatDoor
