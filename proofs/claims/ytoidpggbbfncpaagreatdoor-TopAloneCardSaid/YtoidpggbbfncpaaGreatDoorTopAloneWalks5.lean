/- What the functions that the law TopAlone reaches compute: walks, part 5. No condition. -/
import Derived.Test.YtoidpggbbfncpaaGreatDoorCards
import Derived.Test.YtoidpggbbfncpaaGreatDoorTie
import Derived.Deep.DeepHandedRow
import Derived.Test.YtoidpggbbfncpaaGreatDoorRows
import Derived.Test.YtoidpggbbfncpaaGreatDoorTopAloneEc3
import Derived.Test.YtoidpggbbfncpaaGreatDoorTopAloneRa1
import Derived.Test.YtoidpggbbfncpaaGreatDoorTopAloneRb1
import Derived.Test.YtoidpggbbfncpaaGreatDoorTopAloneRc1
import Derived.Test.YtoidpggbbfncpaaGreatDoorTopAloneWalks
import Derived.Test.YtoidpggbbfncpaaGreatDoorTopAloneWalks2
import Derived.Test.YtoidpggbbfncpaaGreatDoorTopAloneWalks3
import Derived.Test.YtoidpggbbfncpaaGreatDoorTopAloneWalks4
set_option linter.unusedSimpArgs false
set_option linter.unusedVariables false
set_option maxRecDepth 100000
set_option maxHeartbeats 1000000
namespace Go.Proofs.YtoidpggbbfncpaaGreatDoor
open Go Go.Ing Go.RowKit Go.ChangeShapes Go.WideShapes Go.ChangeAt
theorem MX (X:AI)(d:Int)(hw:X.DL):Fa Tryz.prog 78 #[.agg X.enc.toArray, .int .i64 d] [] (fun w=>(GV 0 AI.DP w∧0 ∉ Cj [])) (fun v B=>∃ h:Hd,v = .tuple #[.agg ((AF.CY X d).1.enc).toArray,h.val, .int .i64 (AF.CY X d).2.2]∧h.len=(AF.CY X d).2.1.length∧B = [Ad.own h 56 16 ((AF.CY X d).2.1.flatMap Ing.Event.enc)]):=by
 intro w hS0 hH
 obtain⟨gl0,gm0⟩:=hH
 have hm:=Ct d
 refine Am _ _ Tryz.func78 rfl rfl rfl (hS0) ?_
 refine Gs ?_
 refine B0 rfl rfl rfl (fun b1=>?_)
 refine BG rfl NQ rfl (fun b2=>?_)
 refine Ga rfl (Ga rfl (Gn (.t3 1 2 4) (CD (Gt (AY rfl Ba .m1 (AS.id AI.fl.len AI.fl.one) rfl) ?_))))
 refine BD rfl Zw (.c rfl .n) (fun w hS=>Ho _ w) ?_
 refine Gt (BR rfl) (Gn (.t4 1 2 4 16) ?_)
 refine Gc (fun c1=>?_) (fun c1=>?_)
 ·
  refine Gs (Gt (AY rfl Ba .m1 (AS.id AI.fl.len AI.fl.one) rfl) ?_)
  refine AU (AK (AS.id AI.fl.len AI.fl.one) rfl rfl rfl EF rfl .h) ?_
  refine Ga rfl (Ga rfl (Gn (.t3 4 5 6) (Ac (AE ?_))))
  refine AZ rfl (.cell rfl .m0 (.inl ⟨(by rw [AI.fl.len];exact Ba),rfl⟩) (.tmp rfl (.tmp rfl .n))) ?_
  intro w1 hS
  have hS:=hS.Cr 56 16
  have hS:=(hS.perm (Ay.perm (.c .h .n))).A4
  have hq:AF.CY X d=_:=BF c1
  refine⟨_,⟨⟨none,0,0⟩,?hv,?hl,?hB⟩,hS⟩
  case hv=>rw [hq];rfl
  case hl=>rw [hq];rfl
  case hB=>rw [hq];rfl
 have c1p:=kz c1
 refine Aa ?_
 refine AB (.t3 1 2 4) ?_
 refine AA (Gs (Ga rfl (AQ (AA (CD (Gm rfl (AQ ?_)))))))
 refine AA (Ag ?_)
 refine Bo (.t5 7 18 1 2 4) ?_
 refine FF Ing.Event.enc 56 16 ?_
 refine Bc (.t (.t .h)) ?_
 refine Bc (.t .h) ?_
 refine D2 (fun(k:Int) (s:AI × List Ing.Event) (h:Hd)=>0≤k∧k≤6∧s=AF.Dh X d k.toNat∧s.1.Bj=true∧s.1.DL∧(s.2.length:Int)≤13 * k∧h.len=s.2.length) (fun(k:Int) (s:AI × List Ing.Event) (h:Hd)=>(6 - k).toNat) (fun(k:Int) (s:AI × List Ing.Event) (h:Hd)=> [(7,h.val),(18, .int .i64 k)]) (fun(k:Int) (s:AI × List Ing.Event) (h:Hd)=> [Ad.own h 56 16 (s.2.flatMap Ing.Event.enc),Ad.box b1 35 (AI.enc s.1)]) (0) ((X,[])) (_) ?_ rfl rfl (fun k s h hI1=>?_)
 · exact⟨by omega,by omega,rfl,by simpa using c1,hw,by simp,rfl⟩
 obtain⟨hI11,hI12,hI13,hI14,hI15,hI16,hI17⟩:=hI1
 refine Gs (Gt (BA rfl rfl) (AQ (AA (Aq ?_))))
 refine Gc (fun c2=>?_) (fun c2=>?_)
 ·
  have c2p:=kz c2
  have hbe:=AF.HJ hI14 hI11 (show k < 6 by omega)
  have hfo:=hbe.B4
  refine Aa ?_
  refine AB (.t5 1 2 4 7 18) ?_
  refine AA (Aq (Ag (Gs (Gm rfl (Ga rfl (Gn (.t6 1 2 4 7 8 18) (Gs ?_)))))))
  refine Gm rfl (Gt (Aj Br rfl) ?_)
  refine Gt (AN C8 rfl rfl (by first | omega | (dsimp only;omega) | (have:=Ct (d.tmod 3+3+k);omega)) (by first | omega | (dsimp only;omega) | (have:=Ct (d.tmod 3+3+k);omega))) ?_
  refine Gt (AY rfl F2 .m1 (AI.l2.comp (AS.arr (n:=6) An.fl (by first | omega | (dsimp only;omega) | (have:=Ct (d.tmod 3+3+k);omega)) (by first | omega | (dsimp only;omega) | (have:=Ct (d.tmod 3+3+k);omega)))) rfl) ?_
  refine BG rfl L5 rfl (fun b3=>?_)
  refine AU (AK (AS.id An.fl.len An.fl.one) rfl rfl rfl Ko rfl .h) ?_
  refine Gn (.t7 1 2 4 7 8 9 18) (CD (Gt (Aj Ie rfl) (Gt (AG rfl DO .m0 An.l1 rfl rfl) (Gt (BR rfl) (Gm rfl (Bg 28 rfl rfl (fun q=>Aj GR rfl) (Bg 28 rfl rfl (fun q=>AG (cF rfl q) A5 .m0 An.l5 rfl rfl) ?_)))))))
  refine Bg 28 rfl rfl (fun q=>Ak (cF rfl q) rfl) ?_
  refine Gt (BU rfl rfl (fun h=>by rw [h];rfl)) ?_
  refine Gn (.t8 1 2 4 7 8 9 18 32) ?_
  refine Gc (fun c3=>?_) (fun c3=>?_)
  ·
   have c3p:=kz c3
   refine Be (AW (Ai ?_))
   refine AB (.t5 1 2 4 7 18) ?_
   refine AA (AJ ?_)
   refine Gt (Ax rfl rfl (IntWalk.i64_in _ (by first | omega | (dsimp only;omega) | (have:=Ct (d.tmod 3+3+k);omega)))) ?_
   refine Gm rfl ?_
   refine AQ (AB (.t5 1 2 4 7 18) ?_)
   refine B3 (k+1) (s) _ ?_ ?_ (.t5 7 18 1 2 4) (.cons _ (.refl _))
   · have hrs:AF.EP d k s=_:=(BF c3)
     have hrg:=AF.Fi (draw:=d) hI14 hI15 hI11 (by omega)
     rw [hrs] at hrg
     exact⟨by omega,by omega,by rw [AF.ID hI11,← hI13,hrs],hrg.1,hrg.2.1,(by have:=hrg.2.2;omega),(by first | assumption | (have hso:(AF.CE s.1 k ((s.1.AO.at k).B4 - 1) (AF.MA d k)).out.length=1:=rfl;(try dsimp only at *);simp only [List.length_append] at *;omega))⟩
   · omega
  have c3p:=kz c3
  have hf0:0≤((s.1.AO.at k).B4 - 1)∧((s.1.AO.at k).B4 - 1) < 6:=by omega
  have hbf:=(AF.HJ hI14 hf0.1 hf0.2).BM
  refine Aa ?_
  refine AB (.t7 1 2 4 7 8 9 18) ?_
  refine AA (Gs (Gt (Aj GR rfl) (Gt (AG rfl A5 .m0 An.l5 rfl rfl) ?_)))
  refine Gt (FX rfl rfl (IntWalk.i64_in _ (by first | omega | (dsimp only;omega) | (have:=Ct (d.tmod 3+3+k);omega)))) ?_
  refine Ga rfl (Gn (.t8 1 2 4 7 8 9 10 18) (Aq (Aq ?_)))
  refine BE (N:=16) [0,0,3,7,15,31,63,127,127,511,1023,2047,127,4223,16383,32767] mix (by kernel_rfl) rfl ?_
  refine Pf 0 rfl (AD rfl) (Pf 1 rfl (Aj Br rfl) ?_)
  refine Pf 2 rfl (AN C8 rfl rfl (by first | omega | (dsimp only;omega) | (have:=Ct (d.tmod 3+3+k);omega)) (by first | omega | (dsimp only;omega) | (have:=Ct (d.tmod 3+3+k);omega))) ?_
  refine Pf 3 rfl (Aj Ie rfl) ?_
  refine Pf 4 rfl (AG rfl DO .m2 ((AI.l2.comp (AS.arr (n:=6) An.fl (by first | omega | (dsimp only;omega) | (have:=Ct (d.tmod 3+3+k);omega)) (by first | omega | (dsimp only;omega) | (have:=Ct (d.tmod 3+3+k);omega)))).comp An.l1) rfl rfl) ?_
  refine Pf 5 rfl (BR rfl) (Pf 6 rfl (AD rfl) (GB 7 42 rfl rfl rfl (fun q=>AD rfl) (GB 8 42 rfl rfl rfl (fun q=>Aj Br rfl) ?_)))
  refine Ab 9 rfl rfl (by kernel_rfl) (DE (t:=42) rfl rfl (fun q=>by have q1:=q;(try simp at q1);exact Cu (AN C8 (cF rfl q) (cF rfl q) (by first | omega | (dsimp only;omega) | (have:=Ct (d.tmod 3+3+k);omega)) (by first | omega | (dsimp only;omega) | (have:=Ct (d.tmod 3+3+k);omega))))) ?_
  refine GB 10 42 rfl rfl rfl (fun q=>Aj C6 (cF rfl q)) ?_
  refine Ab 11 rfl rfl (by kernel_rfl) (DE (t:=42) rfl rfl (fun q=>by have q1:=q;(try simp at q1);exact Cu (AG (cF rfl q) A5 .m2 ((AI.l2.comp (AS.arr (n:=6) An.fl (by first | omega | (dsimp only;omega) | (have:=Ct (d.tmod 3+3+k);omega)) (by first | omega | (dsimp only;omega) | (have:=Ct (d.tmod 3+3+k);omega)))).comp An.l3) rfl rfl))) ?_
  refine GB 12 42 rfl rfl rfl (fun q=>Aj C6 rfl) (GB 13 42 rfl rfl rfl (fun q=>AG (cF rfl q) A5 .m0 An.l3 rfl rfl) (GB 14 42 rfl rfl rfl (fun q=>CN (cF rfl q) (cF rfl q)) ?_))
  refine Pf 15 rfl (BU rfl rfl (fun h=>by rw [h];rfl)) ?_
  refine A1 (by kernel_rfl) ?_
  refine AB (.t8 1 2 4 7 8 10 18 51) ?_
  refine AA ?_
  refine Gc (fun c4=>?_) (fun c4=>?_)
  ·
   have c4p:=kz c4
   refine Gs (Gm rfl (Gt (Aj Br rfl) ?_))
   refine Gt (AN C8 rfl rfl (by first | omega | (dsimp only;omega) | (have:=Ct (d.tmod 3+3+k);omega)) (by first | omega | (dsimp only;omega) | (have:=Ct (d.tmod 3+3+k);omega))) ?_
   refine Gt (Aj GR rfl) ?_
   refine AU (AK ((AI.l2.comp (AS.arr (n:=6) An.fl (by first | omega | (dsimp only;omega) | (have:=Ct (d.tmod 3+3+k);omega)) (by first | omega | (dsimp only;omega) | (have:=Ct (d.tmod 3+3+k);omega)))).comp An.l5) rfl rfl rfl DD rfl (.t (.t .h))) ?_
   refine Gn (.t5 1 2 4 7 18) (Be (AW (Ai (AA (AJ ?_)))))
   refine Gt (Ax rfl rfl (IntWalk.i64_in _ (by first | omega | (dsimp only;omega) | (have:=Ct (d.tmod 3+3+k);omega)))) ?_
   refine Gm rfl ?_
   refine AQ (AB (.t5 1 2 4 7 18) ?_)
   refine B3 (k+1) ((s.1.C4 k { s.1.AO.at k with B4:=0 },s.2)) _ ?_ ?_ (.t5 7 18 1 2 4) (.cons _ (.refl _))
   · have hrs:AF.EP d k s=_:=((AX c3).trans (BF c4))
     have hrg:=AF.Fi (draw:=d) hI14 hI15 hI11 (by omega)
     rw [hrs] at hrg
     exact⟨by omega,by omega,by rw [AF.ID hI11,← hI13,hrs],hrg.1,hrg.2.1,(by have:=hrg.2.2;omega),(by first | assumption | (have hso:(AF.CE s.1 k ((s.1.AO.at k).B4 - 1) (AF.MA d k)).out.length=1:=rfl;(try dsimp only at *);simp only [List.length_append] at *;omega))⟩
   · omega
  have c4p:=kz c4
  have hsf:=AF.K3 (b:=k) (n:=AF.MA d k) hI14 hI15 (B4:=((s.1.AO.at k).B4 - 1)) hf0.1 hf0.2 c4p.1
  have hht:=AF.Le (draw:=d) hI11
  refine Aa ?_
  refine AB (.t7 1 2 4 7 8 10 18) ?_
  refine AA (Gs (Gm rfl ?_))
  refine Gt (TC rfl rfl (by first | omega | (dsimp only;omega) | (have:=Ct (d.tmod 3+3+k);omega))) ?_
  refine Gt (Ax rfl rfl (IntWalk.i64_in _ (by first | omega | (dsimp only;omega) | (have:=Ct (d.tmod 3+3+k);omega)))) ?_
  refine Gm rfl ?_
  refine Gt (Ax rfl rfl (IntWalk.i64_in _ (by first | omega | (dsimp only;omega) | (have:=Ct (d.tmod 3+3+k);omega)))) ?_
  refine Gt (TC rfl rfl (by first | omega | (dsimp only;omega) | (have:=Ct (d.tmod 3+3+k);omega))) ?_
  refine Gt (Ax rfl rfl (IntWalk.i64_in _ (by first | omega | (dsimp only;omega) | (have:=Ct (d.tmod 3+3+k);omega)))) ?_
  refine Ga rfl (Gn (.t8 1 2 4 7 8 10 11 18) (Gs (Gt (AY rfl Ba .m2 (AS.id AI.fl.len AI.fl.one) rfl) (Gm rfl (Gt (BH UM US rfl (.cons Ae.l0 rfl rfl rfl (.cons Ae.l1 rfl rfl rfl .nil))) ?_)))))
  refine B0 rfl rfl rfl (fun b4=>?_)
  refine Ga rfl (Gn (.t8 1 2 4 7 10 11 12 18) (Gs (Gm rfl (Gm rfl (Gm rfl (Gt (BH N9 JA rfl (.cons Ing.Event.l0 rfl rfl rfl (.cons Ing.Event.l3 rfl rfl rfl (.cons Ing.Event.l5 rfl rfl rfl .nil)))) ?_))))))
  refine Dg Ing.Event.enc 56 16 ?_
  refine Ah rfl O4 (.c rfl (.c rfl .n)) (.c (.t .h) (.c .h .n)) (CU _ ⟨s.1,k,[]⟩ _ { AF.Fw 14 with other:=((s.1.AO.at k).B4 - 1),n:=AF.MA d k } rfl (show 0≤k∧k < 6 by omega) (show((s.1.AO.at k).B4 - 1) < 6 by omega) (Nat.zero_le _)) (fun v3 B hv=>?_)
  obtain⟨y4,rfl,y5,rfl⟩:=hv
  refine Gn (.t8 1 2 4 7 10 11 12 18) (Aq ?_)
  refine BE (N:=16) [0,0,0,0,12,28,60,0,252,508,1,1025,3073,8191,16383,32767] mix (by kernel_rfl) rfl ?_
  refine Pf 0 rfl (AD rfl) (Pf 1 rfl (AD rfl) (Pf 2 rfl (AD rfl) (Pf 3 rfl (Aj Br rfl) ?_)))
  refine Pf 4 rfl (AN C8 rfl rfl (by first | omega | (dsimp only;omega) | (have:=Ct (d.tmod 3+3+k);omega)) (by first | omega | (dsimp only;omega) | (have:=Ct (d.tmod 3+3+k);omega))) ?_
  refine Pf 5 rfl (Aj Js rfl) ?_
  refine Pf 6 rfl (AG rfl A5 .m4 ((AI.l2.comp (AS.arr (n:=6) An.fl (by first | omega | (dsimp only;omega) | (have:=Ct (d.tmod 3+3+k);omega)) (by first | omega | (dsimp only;omega) | (have:=Ct (d.tmod 3+3+k);omega)))).comp An.l4) rfl rfl) ?_
  refine Pf 7 rfl (AD rfl) ?_
  refine Pf 8 rfl (FX rfl rfl (IntWalk.i64_in _ (by first | omega | (dsimp only;omega) | (have:=Ct (d.tmod 3+3+k);omega)))) ?_
  refine Pf 9 rfl (Ly rfl rfl) (Pf 10 rfl (BV rfl) (Pf 11 rfl (Aj BC rfl) (Pf 12 rfl (Aj Br rfl) ?_)))
  refine Pf 13 rfl (AN C8 rfl rfl (by first | omega | (dsimp only;omega) | (have:=Ct (d.tmod 3+3+k);omega)) (by first | omega | (dsimp only;omega) | (have:=Ct (d.tmod 3+3+k);omega))) ?_
  refine Pf 14 rfl (Aj Js rfl) ?_
  refine Af 15 rfl (by kernel_rfl) ?_
  refine AU (AK (((Ae.l0.comp AI.l2).comp (AS.arr (n:=6) An.fl (by first | omega | (dsimp only;omega) | (have:=Ct (d.tmod 3+3+k);omega)) (by first | omega | (dsimp only;omega) | (have:=Ct (d.tmod 3+3+k);omega)))).comp An.l4) rfl rfl rfl DD rfl .h) ?_
  refine BN rfl ⟨?_,?_⟩
  · exact(Pk (Pk (Pk (Pk (Pk (Pk (Pk (Pk (Pk (Pk (Pk (Pk (Pk (Pk (Pk Ar)))))))))))))))
  refine A1 (by kernel_rfl) ?_
  refine AB (.t7 1 2 4 7 10 12 18) ?_
  refine AA (Aq ?_)
  have hl1:y4.len=1:=y5
  refine AJ (Gm rfl (Gm rfl (Gt (BV rfl) (Gt (Aj CO rfl) (Gt (AG rfl Dw .m0 Ae.l2 rfl rfl) ?_)))))
  refine Ch Ing.Event.fl rfl Tryz.underlying53 PB JA rfl X7 (by decide) (by decide) rfl rfl (fun w hS=>Src.D8 Tryz.underlying53 ((Kn.own .m1) w hS)) (by(try dsimp only at *);omega) (fun _=>(.t (.t (.t .h)))) (fun h6 h6l h6z=>?_)
  refine Ga rfl (Gn (.t7 1 2 4 7 10 12 18) (Gs (Gm rfl (Gt (BV rfl) (Gt (Aj BC rfl) (Gt (AY rfl Ba .m0 Ae.l0 rfl) ?_))))))
  refine AU (AK (AS.id AI.fl.len AI.fl.one) rfl rfl rfl EF rfl (.t (.t (.t (.t .h))))) ?_
  refine Gn (.t6 1 2 4 7 10 18) (Gs (Gm rfl (Gt (Aj Br rfl) ?_)))
  refine Gt (AN C8 rfl rfl (by first | omega | (dsimp only;omega) | (have:=Ct (d.tmod 3+3+k);omega)) (by first | omega | (dsimp only;omega) | (have:=Ct (d.tmod 3+3+k);omega))) ?_
  refine Gt (Aj Js rfl) ?_
  refine Gt (AG rfl A5 .m4 ((AI.l2.comp (AS.arr (n:=6) An.fl (by first | omega | (dsimp only;omega) | (have:=Ct (d.tmod 3+3+k);omega)) (by first | omega | (dsimp only;omega) | (have:=Ct (d.tmod 3+3+k);omega)))).comp An.l4) rfl rfl) ?_
  refine Gt (Ak rfl rfl) (Gn (.t7 1 2 4 7 10 18 102) ?_)
  refine Gc (fun c5=>?_) (fun c5=>?_)
  ·
   have c5p:=kz c5
   refine Gs (Ga rfl (Gn (.t6 1 2 4 7 10 18) (Gs (Gt (AY rfl Ba .m4 (AS.id AI.fl.len AI.fl.one) rfl) (Gm rfl ?_)))))
   refine BJ rfl dT (.c rfl (.c rfl .n)) .n (O1 (AF.CE s.1 k ((s.1.AO.at k).B4 - 1) (AF.MA d k)).w ((s.1.AO.at k).B4 - 1) hsf) (fun w hS=>gl0.pull gm0 hS .n) (fun v7 B hv=>?_)
   obtain⟨y8,rfl,y9,rfl⟩:=hv
   refine Gm rfl (Gt (AL rfl rfl) (Gt (AL rfl rfl) ?_))
   refine AU (AK (AS.id AI.fl.len AI.fl.one) rfl rfl rfl EF rfl (.t (.t (.t (.t (.t .h)))))) ?_
   refine Ga rfl (Gn (.t6 1 2 4 7 13 18) ?_)
   have hl2:y8.len≤12:=by rw [y9];exact(AF.Pz hsf).2.2
   refine AJ (Gm rfl (Gm rfl ?_))
   refine Ch Ing.Event.fl rfl Tryz.underlying53 PB JA rfl X7 (by decide) (by decide) rfl rfl (fun w hS=>Src.D8 Tryz.underlying53 ((Kn.own .m0) w hS)) (by(try dsimp only at *);omega) (fun _=>(.t (.t (.t (.t .h))))) (fun h11 h11l h11z=>?_)
   refine Ga rfl ?_
   refine AQ (AB (.t5 1 2 4 7 18) ?_)
   refine AV (AA (AJ ?_))
   refine Gt (Ax rfl rfl (IntWalk.i64_in _ (by first | omega | (dsimp only;omega) | (have:=Ct (d.tmod 3+3+k);omega)))) ?_
   refine Gm rfl ?_
   refine AQ (AB (.t5 1 2 4 7 18) ?_)
   refine B3 (k+1) (((AF.H2 (AF.CE s.1 k ((s.1.AO.at k).B4 - 1) (AF.MA d k)).w ((s.1.AO.at k).B4 - 1)).w,(s.2++(AF.CE s.1 k ((s.1.AO.at k).B4 - 1) (AF.MA d k)).out)++(AF.H2 (AF.CE s.1 k ((s.1.AO.at k).B4 - 1) (AF.MA d k)).w ((s.1.AO.at k).B4 - 1)).out)) _ ?_ ?_ (.t5 7 18 1 2 4) (.cons _ (.cons _ (.cons _ (.cons _ (.refl _)))))
   · have hrs:AF.EP d k s=_:=((AX c3).trans ((AX c4).trans (BF c5)))
     have hrg:=AF.Fi (draw:=d) hI14 hI15 hI11 (by omega)
     rw [hrs] at hrg
     exact⟨by omega,by omega,by rw [AF.ID hI11,← hI13,hrs],hrg.1,hrg.2.1,(by have:=hrg.2.2;omega),(by first | assumption | (have hso:(AF.CE s.1 k ((s.1.AO.at k).B4 - 1) (AF.MA d k)).out.length=1:=rfl;(try dsimp only at *);simp only [List.length_append] at *;omega))⟩
   · omega
  have c5p:=kz c5
  refine Aa ?_
  refine AB (.t5 1 2 4 7 18) ?_
  refine AV (AA (AJ ?_))
  refine Gt (Ax rfl rfl (IntWalk.i64_in _ (by first | omega | (dsimp only;omega) | (have:=Ct (d.tmod 3+3+k);omega)))) ?_
  refine Gm rfl ?_
  refine AQ (AB (.t5 1 2 4 7 18) ?_)
  refine B3 (k+1) (((AF.CE s.1 k ((s.1.AO.at k).B4 - 1) (AF.MA d k)).w,s.2++(AF.CE s.1 k ((s.1.AO.at k).B4 - 1) (AF.MA d k)).out)) _ ?_ ?_ (.t5 7 18 1 2 4) (.cons _ (.cons _ (.cons _ (.refl _))))
  · have hrs:AF.EP d k s=_:=((AX c3).trans ((AX c4).trans (AX c5)))
    have hrg:=AF.Fi (draw:=d) hI14 hI15 hI11 (by omega)
    rw [hrs] at hrg
    exact⟨by omega,by omega,by rw [AF.ID hI11,← hI13,hrs],hrg.1,hrg.2.1,(by have:=hrg.2.2;omega),(by first | assumption | (have hso:(AF.CE s.1 k ((s.1.AO.at k).B4 - 1) (AF.MA d k)).out.length=1:=rfl;(try dsimp only at *);simp only [List.length_append] at *;omega))⟩
  · omega
 have c2p:=kz c2
 obtain rfl:k=6:=by omega
 refine Be (AW (AW (Ai ?_)))
 refine AB (.t3 2 4 7) ?_
 refine AA (Gs (Gt (AY rfl Ba .m1 (AS.id AI.fl.len AI.fl.one) rfl) (Gm rfl ?_)))
 refine AU (AK (AS.id AI.fl.len AI.fl.one) rfl rfl rfl EF rfl (.t (.t .h))) ?_
 refine Ga rfl (Ga rfl (Gn (.t3 4 5 6) (Ac ?_)))
 refine AZ rfl (.cell rfl .m2 (.inl ⟨(by rw [AI.fl.len];exact Ba),rfl⟩) (.tmp rfl (.tmp rfl .n))) ?_
 intro w1 hS
 have hS:=(hS.perm (Ay.perm (.c .h .n))).A4
 have hq:AF.CY X d=((AF.Dh X d 6).1,(AF.Dh X d 6).2,0):=AX c1
 have hs6:s=AF.Dh X d 6:=hI13
 rw [← hs6] at hq
 refine⟨_,⟨h,?hv,?hl,?hB⟩,hS⟩
 case hv=>rw [hq];(try rfl)
 case hl=>rw [hq];exact hI17
 case hB=>rw [hq];(try rfl)
theorem EW (p:Ap)(s:Au)(hs:s.length≤9000000000000000000)(w:World):En Tryz.prog 62 #[.agg p.enc.toArray,BT s] w fun v w'=>v = .tuple #[.agg (Ap.enc ⟨p.wait,(Page.send p s).1.shown,(Page.send p s).1.Bv,(Page.send p s).1.ring,(Page.send p s).1.cut⟩).toArray, .int .i64 (Page.send p s).2]∧B9 w w':=by
 refine Am [] [] Tryz.func62 rfl rfl rfl (St.start w []) ?_
 refine Gs ?_
 refine B0 rfl rfl rfl (fun b1=>?_)
 refine BG rfl Th rfl (fun b2=>?_)
 refine Ga rfl (Gn (.t3 1 2 4) (Aq (Ag (Gs (Gt (AY rfl Co .m1 (AS.id Ap.fl.len Ap.fl.one) rfl) ?_)))))
 refine BD rfl aP (.c rfl .n) (fun w hS=>G8 _ w) ?_
 refine Gt (BR rfl) (Ga rfl (Gn (.t4 1 2 4 6) ?_))
 refine Gc (fun c1=>?_) (fun c1=>?_)
 ·
  refine Gs (Gt (AY rfl Co .m1 (AS.id Ap.fl.len Ap.fl.one) rfl) ?_)
  refine AU (AK (AS.id Ap.fl.len Ap.fl.one) rfl rfl rfl FH rfl .h) ?_
  refine Ga rfl (Gn (.t2 4 5) (Ac (AT (AE ?_))))
  refine AZ rfl (.cell rfl .m0 (.inl ⟨(by rw [Ap.fl.len];exact Co),rfl⟩) (.tmp rfl .n)) ?_
  intro w1 hS;refine⟨?_,hS.Al⟩;simp only [Page.send,Page.put,Page.of,c1,↓reduceIte,Bool.false_eq_true];rfl
 have c1p:=kz c1
 have hg:=(Page.Hl p).1 (by simpa using c1)
 refine Gs (Gt (Aj JT rfl) (Gt (AG rfl DO .m1 Ap.l4 rfl rfl) (Ga rfl (Gn (.t4 1 2 4 11) ?_))))
 refine Gc (fun c2=>?_) (fun c2=>?_)
 ·
  refine Gs (Gt (AY rfl Co .m1 (AS.id Ap.fl.len Ap.fl.one) rfl) ?_)
  refine AU (AK (AS.id Ap.fl.len Ap.fl.one) rfl rfl rfl FH rfl .h) ?_
  refine Ga rfl (Gn (.t2 4 5) (Ac (AT (AE ?_))))
  refine AZ rfl (.cell rfl .m0 (.inl ⟨(by rw [Ap.fl.len];exact Co),rfl⟩) (.tmp rfl .n)) ?_
  intro w1 hS;refine⟨?_,hS.Al⟩;rw [show Page.send p s=(Page.of p,6) from by simp only [Page.send,c1,c2,↓reduceIte,Bool.false_eq_true]];rfl
 have c2p:=kz c2
 refine Gs (Gm rfl (Gt (BL rfl Tryz.underlying9 rfl) (Gt (Aj IU rfl) (Gt (AG rfl CM .m1 Ap.l3 rfl rfl) (Gt (BL rfl Tryz.underlying9 rfl) ?_)))))
 refine Gt (FX rfl rfl (IntWalk.i64_in _ (by first | omega | (simp at *;omega)))) ?_
 refine Gt (Cp rfl rfl) (Ga rfl (Gn (.t4 1 2 4 15) ?_))
 refine Gc (fun c3=>?_) (fun c3=>?_)
 ·
  refine Gs (Gt (Aj JT rfl) ?_)
  refine AU (AK Ap.l4 rfl rfl rfl Km rfl (.t .h)) ?_
  refine Gn (.t2 2 4) (Gs (Gt (AY rfl Co .m1 (AS.id Ap.fl.len Ap.fl.one) rfl) ?_))
  refine AU (AK (AS.id Ap.fl.len Ap.fl.one) rfl rfl rfl FH rfl .h) ?_
  refine Ga rfl (Gn (.t2 4 5) (Ac (AT (AE ?_))))
  refine AZ rfl (.cell rfl .m0 (.inl ⟨(by rw [Ap.fl.len];exact Co),rfl⟩) (.tmp rfl .n)) ?_
  intro w1 hS;refine⟨?_,hS.Al⟩;simp only [Page.send,Page.put,Page.of,c1,c2,c3,↓reduceIte,Bool.false_eq_true];rfl
 have c3p:=kz c3
 refine Aa ?_
 refine AB (.t3 1 2 4) ?_
 refine AV (AA (Gs (Gt (Aj IU rfl) (Gt (AG rfl CM .m1 Ap.l3 rfl rfl) (Gm rfl ?_)))))
 refine Gt (CZ rfl rfl (by first | omega | (simp at *;omega))) ?_
 refine Gt (Aj IU rfl) ?_
 refine AU (AK Ap.l3 rfl rfl rfl Ez rfl (.t .h)) ?_
 refine Gn (.t2 2 4) (Gs (Gt (AY rfl Co .m1 (AS.id Ap.fl.len Ap.fl.one) rfl) ?_))
 refine AU (AK (AS.id Ap.fl.len Ap.fl.one) rfl rfl rfl FH rfl .h) ?_
 refine Ga rfl (Gn (.t2 4 5) (Ac ?_))
 refine AZ rfl (.cell rfl .m0 (.inl ⟨(by rw [Ap.fl.len];exact Co),rfl⟩) (.tmp rfl .n)) ?_
 intro w1 hS;refine⟨?_,hS.Al⟩;simp only [Page.send,Page.put,Page.of,c1,c2,c3,↓reduceIte,Bool.false_eq_true];rfl
theorem Hy (b:Nat)(m:Int)(h0:0 < m)(h1:m≤281474976710656):Jk Tryz.prog 186 #[.pointer (some ⟨b,0,none⟩), .int .i64 m] [Ad.box b 107 (Df.enc ⟨some ⟨b,0,none⟩,⟨none,0,0⟩⟩)] (fun v B=>∃ h',v = .tuple #[]∧h'.Z∧h'.len=0∧B = [Ad.box b 107 (Df.enc ⟨some ⟨b,0,none⟩,h'⟩),Ad.own h' 5 1 (([]:Au).flatMap Db)]):=by
 intro w hS0
 refine Am _ _ Tryz.func186 rfl rfl rfl (hS0) ?_
 refine Aq ?_
 refine BE (N:=16) [0,1,3,7,15,31,0,127,255,0,512,1536,3584,7680,16383,32767] mix (by kernel_rfl) rfl ?_
 refine Pf 0 rfl (AD rfl) (Pf 1 rfl (BV rfl) (Pf 2 rfl (Aj E6 rfl) (Pf 3 rfl (AG rfl IX .m0 Df.l1 rfl rfl) (Pf 4 rfl (L2 rfl Tryz.underlying105 rfl) ?_))))
 refine Pf 5 rfl (YL rfl rfl (IntWalk.i64_in _ (by first | omega | (dsimp only;omega)))) ?_
 refine Pf 6 rfl (AD rfl) ?_
 refine Pf 7 rfl (Ax rfl rfl (IntWalk.i64_in _ (by first | omega | (dsimp only;omega)))) ?_
 refine Pf 9 rfl (AD rfl) (Pf 10 rfl (BV rfl) (Pf 11 rfl (Aj E6 rfl) (Pf 12 rfl (AG rfl IX .m0 Df.l1 rfl rfl) (Pf 13 rfl (Av rfl Tryz.underlying105 rfl) ?_))))
 refine Af 8 rfl (by kernel_rfl) ?_
 refine R6 (ps:=#[3]) rfl Tryz.func193 (by kernel_rfl) (by kernel_rfl) (by kernel_rfl) (by kernel_rfl) Tryz.underlying105 WB rfl (by first | omega | (dsimp only;omega)) (by first | omega | (dsimp only;omega)) (fun b1 b1c b1x b1l b1k=>?_)
 refine Bf rfl ⟨?_,?_⟩
 · exact(Po rfl (Av rfl Tryz.underlying105 rfl) rfl rfl (Po rfl (AG rfl IX .m1 Df.l1 rfl rfl) rfl rfl (Po rfl (Aj E6 rfl) rfl rfl (Po rfl (BV rfl) rfl rfl (Po rfl (AD rfl) rfl rfl (Pk (Pk (Pk (Pk (Pk (Pk (Pk (Pk Ar)))))))))))))
 refine Af 14 rfl (by kernel_rfl) ?_
 refine Ke WT rfl Tryz.underlying105 WB rfl rfl (by first | omega | (dsimp only;omega)) (by first | omega | (dsimp only;omega)) (fun _=> .h) ?_
 refine Bf rfl ⟨?_,?_⟩
 · exact(Pk (Pk (Pk (Pk (Pk (Pk (Pk (Pk (Pk (Pk (Pk (Pk (Pk Ar)))))))))))))
 refine Pf 15 rfl (A2 rfl) ?_
 refine A1 (by kernel_rfl) ?_
 refine AB (.t2 0 4) ?_
 refine AA (Gs (Gm rfl (Gm rfl (Gt (BV rfl) (Gt (Aj E6 rfl) (Gt (AG rfl IX .m1 Df.l1 rfl rfl) (Gt (Wq rfl Tryz.underlying105 WB rfl rfl) ?_)))))))
 refine Gn (.t2 0 4) (AJ (Gm rfl (Gm rfl (Gt (BV rfl) (Gt (Aj E6 rfl) ?_)))))
 refine AU (AK Df.l1 rfl rfl rfl Ub rfl (.t .h)) ?_
 refine AQ ?_
 refine Bn rfl .n ?_
 intro w1 hS
 have hS:=(hS.perm (Ay.perm (.c (.t .h) (.c .h .n)))).A4
 exact⟨_,⟨_,rfl,⟨by intro a h;cases h;rfl,fun _=>by dsimp only at b1k ⊢;omega⟩,rfl,rfl⟩,hS⟩
theorem H3 (b:Nat)(m:Int)(h0:0≤m)(h1:m≤281474976710656):Jk Tryz.prog 175 #[.pointer (some ⟨b,0,none⟩), .int .i64 m] [Ad.box b 107 (Df.enc ⟨none,⟨none,0,0⟩⟩)] (fun v B=>∃ h',v = .tuple #[]∧h'.Z∧h'.len=0∧B = [Ad.box b 107 (Df.enc ⟨some ⟨b,0,none⟩,h'⟩),Ad.own h' 5 1 (([]:Au).flatMap Db)]):=by
 intro w hS0
 refine Am _ _ Tryz.func175 rfl rfl rfl (hS0) ?_
 refine Gs (Gm rfl ?_)
 refine Ah rfl Z5 (.c rfl .n) (.c .h .n) (DC _ _ _ (.inl rfl)) (fun v1 B hv=>?_)
 obtain⟨rfl,rfl⟩:=hv
 refine Gn (.t2 0 1) (CD (Gm rfl (Gt (BA rfl rfl) (Gn (.t3 0 1 7) ?_))))
 refine DU rfl (by simp;omega) ?_
 refine Aa ?_
 refine AB (.t2 0 1) ?_
 refine AA (Aq ?_)
 refine BE (N:=13) [0,1,3,7,15,0,32,96,224,480,1023,0,4095] mix (by kernel_rfl) rfl ?_
 refine Pf 0 rfl (AD rfl) (Pf 1 rfl (BV rfl) (Pf 2 rfl (Aj E6 rfl) (Pf 3 rfl (AG rfl IX .m0 Df.l1 rfl rfl) (Pf 4 rfl (L2 rfl Tryz.underlying105 rfl) (Pf 5 rfl (AD rfl) (Pf 6 rfl (BV rfl) (Pf 7 rfl (Aj E6 rfl) ?_)))))))
 refine Pf 8 rfl (AG rfl IX .m0 Df.l1 rfl rfl) (Pf 9 rfl (Av rfl Tryz.underlying105 rfl) ?_)
 refine Pf 10 rfl (FX rfl rfl (IntWalk.i64_in _ (by first | omega | (dsimp only;omega)))) ?_
 refine Pf 11 rfl (AD rfl) (Pf 12 rfl (BA rfl rfl) ?_)
 refine A1 (by kernel_rfl) ?_
 refine AB (.t3 0 1 21) ?_
 refine AA ?_
 refine Gc (fun c1=>?_) (fun c1=>?_)
 ·
  have c1p:=kz c1
  refine AJ (Gm rfl (Gm rfl ?_))
  refine Ah rfl cR (.c rfl (.c rfl .n)) (.c .h .n) (Hy _ _ (by dsimp only at *;omega) h1) (fun v2 B hv=>?_)
  obtain⟨y3,rfl,y4,y5,rfl⟩:=hv
  refine AQ ?_
  refine Bn rfl .n ?_
  intro w1 hS
  have hS:=(hS.perm (Ay.perm (.c .h (.c .h .n)))).A4
  exact⟨_,⟨_,rfl,by assumption,by assumption,rfl⟩,hS⟩
 refine Aa ?_
 refine Bn rfl .n ?_
 intro w1 hS
 have hS:=hS.Cr 5 1
 have hS:=(hS.perm (Ay.perm (.c (.t .h) (.c .h .n)))).A4
 exact⟨_,⟨_,rfl,Hd.UU,rfl,rfl⟩,hS⟩
theorem Jx (s:Au)(hs:s.length≤70368744000000)(w:World):En Tryz.prog 158 #[BT s,BT [255],BT [255,255], .int .i64 (-1)] w fun v w'=>v=BT (Page.escape s)∧B9 w w':=by
 have hcl:=List.count_le_length (a:=(255:UInt8)) (l:=s)
 refine Am [] [] Tryz.func158 rfl rfl rfl (St.start w []) ?_
 refine Gs (Ga rfl (Gn (.t4 0 1 2 3) (CD (Gm rfl (Gm rfl (Gt (Bu rfl rfl) (Gm rfl ?_)))))))
 refine Bg 19 rfl rfl (fun q=>AD rfl) (Bg 19 rfl rfl (fun q=>Ak (cF rfl q) rfl) ?_)
 refine Gt (BU rfl rfl (fun h=>by rw [h];rfl)) ?_
 refine Gn (.t5 0 1 2 3 22) ?_
 refine DU rfl (by simp) ?_
 refine Aa ?_
 refine AB (.t4 0 1 2 3) ?_
 refine AA (CD (Gm rfl (Gm rfl ?_)))
 refine BD rfl Zd (.c rfl (.c rfl .n)) (fun w hS=>Hc _ 255 w) ?_
 refine Ga rfl (Gn (.t5 0 1 2 3 9) (Gs (Gm rfl (Gt (Ak rfl rfl) (Gn (.t6 0 1 2 3 9 28) ?_)))))
 refine Gc (fun c1=>?_) (fun c1=>?_)
 ·
  have c1p:=kz c1
  refine Gs (Gm rfl (Ga rfl (Gn (.t1 8) (Ac (AE ?_)))))
  refine AZ rfl (.tmp rfl .n) ?_
  intro w1 hS;refine⟨?_,hS.Al⟩;have e:s.count 255=0:=by simp at c1;omega
  rw [Page.M4 _ e];rfl
 have c1p:=kz c1
 refine Gs (Gm rfl (Gt (BA rfl rfl) (Gm rfl (Bg 32 rfl rfl (fun q=>AD rfl) (Bg 32 rfl rfl (fun q=>AD rfl) (Bg 32 rfl rfl (fun q=>BA (cF rfl q) (cF rfl q)) ?_))))))
 refine Gt (BU rfl rfl (fun h=>by rw [h];rfl)) ?_
 refine Gn (.t6 0 1 2 3 9 36) ?_
 refine HF rfl rfl ?_
 refine AJ (Gm rfl (Ga rfl (Gn (.t4 0 1 2 3) (Gs ?_))))
 refine BG rfl Um rfl (fun b1=>?_)
 refine Dg Db 5 1 ?_
 refine AQ (AA (Gs (Gm rfl (Gt (BL rfl Tryz.underlying9 rfl) (Gm rfl (Gm rfl (Gt (BL rfl Tryz.underlying9 rfl) ?_)))))))
 refine Gm rfl (Gt (BL rfl Tryz.underlying9 rfl) ?_)
 refine Gt (FX rfl rfl (IntWalk.i64_in _ (by(try simp only [List.length_cons,List.length_nil]);omega))) ?_
 refine Gt (YL rfl rfl (IntWalk.i64_in _ (by(try simp only [List.length_cons,List.length_nil]);omega))) ?_
 refine Gt (Ax rfl rfl (IntWalk.i64_in _ (by(try simp only [List.length_cons,List.length_nil]);omega))) ?_
 refine Ah rfl bx (.c rfl (.c rfl .n)) (.c (.t .h) .n) (H3 _ _ (by simp only [List.length_cons,List.length_nil];omega) (by simp only [List.length_cons,List.length_nil];omega)) (fun v1 B hv=>?_)
 obtain⟨y2,rfl,y3,y4,rfl⟩:=hv
 refine Gn (.t5 0 1 2 3 10) (Gs (Ga rfl (AQ (AA (CD (Gm rfl (Gt (BL rfl Tryz.underlying9 rfl) ?_)))))))
 refine Gt (Cp rfl rfl) (Gn (.t7 0 1 2 3 10 11 51) ?_)
 refine HF rfl (by simp) ?_
 refine Gs (Gm rfl (Gm rfl (Gn (.t7 0 1 2 10 11 52 53) (Ag ?_))))
 refine Bo (.t7 11 53 0 1 2 10 52) ?_
 refine Bc (.t .h) ?_
 refine Bc (.t .h) ?_
 refine Od (fun(k:Int) (start:Int) (x:Au) (p:Option Addr) (h:Hd)=>Page.RT s (s.count 255) k start x∧(p=none∨p=some ⟨b1,0,none⟩)∧h.Z∧h.len=x.length) (fun(k:Int) (start:Int) (x:Au) (p:Option Addr) (h:Hd)=>((s.count 255:Int) - k).toNat) (fun(k:Int) (start:Int) (x:Au) (p:Option Addr) (h:Hd)=> [(11, .int .i64 start),(53, .int .i64 k)]) (fun(k:Int) (start:Int) (x:Au) (p:Option Addr) (h:Hd)=> [Ad.box b1 107 (Df.enc ⟨p,h⟩),Ad.own h 5 1 (x.flatMap Db)]) (0) (0) ([]) (_) (_) ?_ rfl rfl (fun k start x p h hI1=>?_)
 · exact⟨Page.RT.start rfl, .inr rfl,by assumption,by assumption⟩
 obtain⟨hI11,hp,hz,hl⟩:=hI1;have hk0:=hI11.k0;have hs0:=hI11.s0;have hs1:=hI11.s1;have hxl:=hI11.xl
 refine Gs (Gt (BA rfl rfl) (AQ (AA (Aq ?_))))
 refine Gc (fun c2=>?_) (fun c2=>?_)
 ·
  have c2p:=kz c2
  obtain⟨i,hi,hlt,hR⟩:=hI11.idx (by omega)
  rw [← hi] at hR hlt
  refine Aa ?_
  refine AB (.t7 0 1 2 10 11 52 53) ?_
  refine AA (Aq (Ag (Gs (Gm rfl (Gm rfl (Gm rfl ?_))))))
  refine Gt (Gu Tryz.underlying9 rfl rfl (by(try simp only [List.length_cons,List.length_nil]);omega) (by(try simp only [List.length_cons,List.length_nil]);omega)) ?_
  refine Gm rfl ?_
  refine BD rfl W4 (.c rfl (.c rfl .n)) (fun w hS=>FY _ 255 w) ?_
  refine Gt (Ax rfl rfl (IntWalk.i64_in _ (by(try simp only [List.length_cons,List.length_nil]);omega))) ?_
  refine Ga rfl (Gn (.t8 0 1 2 10 11 12 52 53) (Gs (Gm rfl (Gm rfl (Gm rfl ?_)))))
  refine Gt (Y7 Tryz.underlying9 rfl rfl rfl (by(try simp only [List.length_cons,List.length_nil]);omega) (by(try simp only [List.length_cons,List.length_nil]);omega) (by(try simp only [List.length_cons,List.length_nil]);omega)) ?_
  refine Ah rfl PY (.c rfl (.c rfl .n)) (.c .h (.c .h .n)) (BO _ _ _ _ (by assumption) (by assumption) (by assumption) _ (by(try simp only [List.length_drop,List.length_take,List.length_append,List.length_cons,List.length_nil]);omega)) (fun v6 B hv=>?_)
  obtain⟨y7,y8,rfl,y9,y10,y11,rfl⟩:=hv
  refine Gn (.t7 0 1 2 10 12 52 53) (Gs (Gm rfl ?_))
  refine Ah rfl PY (.c rfl (.c rfl .n)) (.c .h (.c .h .n)) (BO _ _ _ _ (by assumption) (by assumption) (by assumption) _ (by(try simp only [List.length_drop,List.length_take,List.length_append,List.length_cons,List.length_nil]);omega)) (fun v12 B hv=>?_)
  obtain⟨y13,y14,rfl,y15,y16,y17,rfl⟩:=hv
  refine Gn (.t7 0 1 2 10 12 52 53) (AJ (Gm rfl (Gm rfl (Gt (BL rfl Tryz.underlying9 rfl) ?_))))
  refine Gt (Ax rfl rfl (IntWalk.i64_in _ (by(try simp only [List.length_cons,List.length_nil]);omega))) ?_
  refine Ga rfl ?_
  refine AQ (AB (.t7 0 1 2 10 11 52 53) ?_)
  refine AV (AA (AJ ?_))
  refine Gt (Ax rfl rfl (IntWalk.i64_in _ (by(try simp only [List.length_cons,List.length_nil]);omega))) ?_
  refine Gm rfl ?_
  refine AQ (AB (.t7 0 1 2 10 11 52 53) ?_)
  refine I9 (k+1) _ _ _ _ ?_ ?_ (.t7 11 53 0 1 2 10 52) (.refl _)
  · exact⟨hR,by assumption,by assumption,by assumption⟩
  · omega
 have c2p:=kz c2
 refine Be (AW (AW (Ai ?_)))
 refine AB (.t3 0 10 11) ?_
 refine AA (Gs (Gm rfl (Gm rfl ?_)))
 refine Gt (Gu Tryz.underlying9 rfl rfl (by(try simp only [List.length_cons,List.length_nil]);omega) (by(try simp only [List.length_cons,List.length_nil]);omega)) ?_
 refine Ah rfl PY (.c rfl (.c rfl .n)) (.c .h (.c .h .n)) (BO _ _ _ _ (by assumption) (by assumption) (by assumption) _ (by(try simp only [List.length_drop,List.length_take,List.length_append,List.length_cons,List.length_nil]);omega)) (fun v18 B hv=>?_)
 obtain⟨y19,y20,rfl,y21,y22,y23,rfl⟩:=hv
 refine Gn (.t1 10) (Gs ?_)
 refine Ah rfl Yu (.c rfl .n) (.c .h (.c .h .n)) (Cw _ _ _ _ (by assumption) (by assumption) (by(try simp only [List.length_append,List.length_drop]);omega)) (fun v24 B hv=>?_)
 obtain⟨rfl,rfl⟩:=hv
 refine Ga rfl (Gn (.t1 8) (Ac ?_))
 refine AZ rfl (.tmp rfl .n) ?_
 intro w1 hS;refine⟨?_,hS.Al⟩;rw [← hI11.done (by omega)];rfl
theorem Iu (s:Au)(hs:s.length≤70368744000000)(w:World):En Tryz.prog 126 #[BT s,BT [255],BT [255,255]] w fun v w'=>v=BT (Page.escape s)∧B9 w w':=by
 refine Am [] [] Tryz.func126 rfl rfl rfl (St.start w []) ?_
 refine Gs (Ga rfl (Gn (.t3 0 1 2) (Gs (Gm rfl (Gm rfl (Gm rfl ?_))))))
 refine BD rfl bU (.c rfl (.c rfl (.c rfl (.c rfl .n)))) (fun w hS=>Jx _ (by first | assumption | omega) w) ?_
 refine Ga rfl (Gn (.t1 6) (Ac ?_))
 refine AZ rfl (.tmp rfl .n) ?_
 intro w1 hS;refine⟨?_,hS.Al⟩;rfl
theorem LF (s:Au)(hs:s.length≤70368744000000)(w:World):En Tryz.prog 98 #[BT s] w fun v w'=>v=BT (Page.escape s)∧B9 w w':=by
 refine Am [] [] Tryz.func98 rfl rfl rfl (St.start w []) ?_
 refine Gs (Ga rfl (Gn (.t1 0) (Gs (Gm rfl ?_))))
 refine BD rfl bj (.c rfl (.c rfl (.c rfl .n))) (fun w hS=>Iu _ (by first | assumption | omega) w) ?_
 refine Ga rfl (Gn (.t1 2) (Ac ?_))
 refine AZ rfl (.tmp rfl .n) ?_
 intro w1 hS;refine⟨?_,hS.Al⟩;rfl
theorem NF {t0:Nat}(p:Ap)(qs:List Au)(top:Int)(hs:∀ s∈qs,s.length≤70368744000000):Fa Tryz.prog 83 #[.agg p.enc.toArray, .int .i64 top] [] (fun w=>Rd w p.wait t0 1 (qs.flatMap A8)∧p.wait.len≤p.wait.cap) (fun v B=>((!Page.Bj p || decide (top < 0) || decide (200 < top))=true∧v = .tuple #[.agg p.enc.toArray, .int .i64 2]∧B = [])∨((!Page.Bj p || decide (top < 0) || decide (200 < top))=false∧∃(T:Nat) (h' g:Hd) (zs:List Au),v = .tuple #[.agg (Ap.enc ⟨h',(Page.BZ top qs (Page.of p)).1.shown,(Page.BZ top qs (Page.of p)).1.Bv,(Page.BZ top qs (Page.of p)).1.ring,(Page.BZ top qs (Page.of p)).1.cut⟩).toArray, .int .i64 0]∧h'.len=(Page.BZ top qs (Page.of p)).2.length∧au T h' (Page.BZ top qs (Page.of p)).2 t0 p.wait qs 9 g zs∧B = [Ad.own g 9 1 (zs.flatMap A8)])):=by
 intro w hS0 hH
 obtain⟨r0,k0⟩:=hH
 have hl0:=r0.MC De (by decide)
 refine Am _ _ Tryz.func83 rfl rfl rfl (hS0) ?_
 refine Gs ?_
 refine B0 rfl rfl rfl (fun b1=>?_)
 refine BG rfl Th rfl (fun b2=>?_)
 refine Ga rfl (Gn (.t3 1 2 4) (CD (Gt (AY rfl Co .m1 (AS.id Ap.fl.len Ap.fl.one) rfl) ?_)))
 refine BD rfl aP (.c rfl .n) (fun w hS=>G8 _ w) ?_
 refine Gt (BR rfl) (Gm rfl (Bg 10 rfl rfl (fun q=>AD rfl) (Bg 10 rfl rfl (fun q=>BA (cF rfl q) rfl) ?_)))
 refine Gt (BU rfl rfl (fun h=>by rw [h];rfl)) ?_
 refine Gm rfl (Bg 14 rfl rfl (fun q=>AD rfl) (Bg 14 rfl rfl (fun q=>Cp (cF rfl q) rfl) ?_))
 refine Gt (BU rfl rfl (fun h=>by rw [h];rfl)) ?_
 refine Gn (.t4 1 2 4 17) ?_
 refine Gc (fun c1=>?_) (fun c1=>?_)
 ·
  refine Gs (Gt (AY rfl Co .m1 (AS.id Ap.fl.len Ap.fl.one) rfl) ?_)
  refine AU (AK (AS.id Ap.fl.len Ap.fl.one) rfl rfl rfl FH rfl .h) ?_
  refine Ga rfl (Gn (.t2 4 5) (Ac (AE ?_)))
  refine AZ rfl (.cell rfl .m0 (.inl ⟨(by rw [Ap.fl.len];exact Co),rfl⟩) (.tmp rfl .n)) ?_
  intro w1 hS
  have hS:=(hS.perm (Ay.perm .n)).A4
  exact⟨_, .inl ⟨c1,rfl,rfl⟩,hS⟩
 have c1p:=kz c1
 have hgd:Page.Bj p=true∧0≤top∧top≤200:=by simp at c1;exact⟨c1.1.1,by omega,by omega⟩
 refine Aa ?_
 refine AB (.t3 1 2 4) ?_
 refine AA (Aq (Ag ?_))
 refine Bo (.t3 1 2 4) ?_
 refine FF A8 9 1 ?_
 refine Bc (.t (.t .h)) ?_
 refine Bc (.t .h) ?_
 refine YK (fun(rest:List Au) (sh:Int) (ak:Bool) (ring:Au) (ct:Bool) (T:Nat) (hx:Hd) (g:Hd) (zs:List Au)=>Page.FI top qs (Page.of p) rest hx ⟨sh,ak,ring,ct⟩∧au T hx rest t0 p.wait qs 9 g zs) (fun(rest:List Au) (sh:Int) (ak:Bool) (ring:Au) (ct:Bool) (T:Nat) (hx:Hd) (g:Hd) (zs:List Au)=>rest.length) (fun(rest:List Au) (sh:Int) (ak:Bool) (ring:Au) (ct:Bool) (T:Nat) (hx:Hd) (g:Hd) (zs:List Au)=> []) (fun(rest:List Au) (sh:Int) (ak:Bool) (ring:Au) (ct:Bool) (T:Nat) (hx:Hd) (g:Hd) (zs:List Au)=> [Ad.own g 9 1 (zs.flatMap A8),Ad.box b1 65 (Ap.enc ⟨hx,sh,ak,ring,ct⟩)]) (qs) (p.shown) (p.Bv) (p.ring) (p.cut) (t0) (p.wait) (_) (_) ?_ rfl rfl (fun rest sh ak ring ct T hx g zs hI1=>?_)
 · exact⟨Page.FI.start hgd.1 hl0 hs, .inl ⟨rfl,rfl,rfl,rfl,rfl⟩⟩
 obtain⟨hI11,hor⟩:=hI1;have hl:=hI11.hl;have hn:=hI11.n;have hr:=hI11.ring;have hs0:=hI11.s0;have hs1:=hI11.s1;dsimp only at hr hs0 hs1
 refine CD (Gt (Aj G4 rfl) (Gt (AG rfl Eh .m1 Ap.l0 rfl rfl) (Gt (Av rfl Tryz.underlying52 rfl) (Gt (Cp rfl rfl) (Gm rfl (Bb 23 rfl rfl (fun q=>Aj Mm rfl) (Bb 23 rfl rfl (fun q=>AG (BX rfl q) DO .m1 Ap.l2 rfl rfl) ?_)))))))
 refine Bb 23 rfl rfl (fun q=>BR (BX rfl q)) (Gt (BI rfl rfl (fun h=>h)) (Gm rfl (Bb 28 rfl rfl (fun q=>Aj JT rfl) (Bb 28 rfl rfl (fun q=>AG (BX rfl q) DO .m1 Ap.l4 rfl rfl) (Bb 28 rfl rfl (fun q=>BR (BX rfl q)) (Gt (BI rfl rfl (fun h=>h)) (Gn (.t4 1 2 4 32) ?_)))))))
 refine Gc (fun c2=>?_) (fun c2=>?_)
 ·
  have c2p:=kz c2
  have hc3:0 < rest.length∧ak=false∧ct=false:=by simp at c2;exact⟨by omega,c2.1.2,c2.2⟩
  obtain⟨hc0,hak,hct⟩:=hc3
  obtain⟨q,r,rfl⟩:=Bi.Ut (qs:=rest) (by omega)
  refine Aa ?_
  refine AB (.t3 1 2 4) ?_
  refine AA (Ag (CD (Gm rfl (Gt (Cp rfl rfl) (Gm rfl (Bb 35 rfl rfl (fun q=>Aj KK rfl) (Bb 35 rfl rfl (fun q=>AG (BX rfl q) A5 .m1 Ap.l1 rfl rfl) ?_)))))))
  refine Bb 35 rfl rfl (fun q=>AD rfl) (Bb 35 rfl rfl (fun q=>CK (BX rfl q) (BX rfl q)) (Gt (BI rfl rfl (fun h=>h)) (Gn (.t4 1 2 4 40) ?_)))
  refine Gc (fun c3=>?_) (fun c3=>?_)
  ·
   have c3p:=kz c3
   refine Gs (Gt (Aj Mm rfl) ?_)
   refine AU (AK Ap.l2 rfl rfl rfl Km rfl (.t .h)) ?_
   refine Gn (.t2 2 4) (Gs (Gt (AY rfl Co .m1 (AS.id Ap.fl.len Ap.fl.one) rfl) ?_))
   refine BD rfl Xu (.c rfl (.c rfl .n)) (fun w hS=>EW _ _ (by first | omega | (have h1:=Page.Hk ((q :: r).getD (0:Int).toNat []);have h2:=hI11.len ((q :: r).getD (0:Int).toNat []) (by simp);simp only [List.length_append,List.length_cons,List.length_nil] at *;omega)) w) ?_
   refine Gm rfl (Gt (AL rfl rfl) (Gt (AL rfl rfl) ?_))
   refine AU (AK (AS.id Ap.fl.len Ap.fl.one) rfl rfl rfl FH rfl (.t .h)) ?_
   refine Gn (.t2 2 4) (Be (AW ?_))
   refine KF rfl ?_
   refine AW (Ai (AA (Gs (Gt (AY rfl Co .m1 (AS.id Ap.fl.len Ap.fl.one) rfl) ?_))))
   refine AU (AK (AS.id Ap.fl.len Ap.fl.one) rfl rfl rfl FH rfl (.t (.t .h))) ?_
   refine Ga rfl (Gn (.t2 4 5) (Ac ?_))
   refine AZ rfl (.cell rfl .m2 (.inl ⟨(by rw [Ap.fl.len];exact Co),rfl⟩) (.tmp rfl .n)) ?_
   intro w1 hS
   have hS:=(hS.perm (Ay.perm (.c .h .n))).A4
   have e:=hI11.asks hak hct c3
   exact⟨_, .inr ⟨c1,T,hx,g,zs,(by first | (rw [e];done) | (rw [e];rfl)),(by rw [e];exact hI11.hl),(by rw [e];exact hor),rfl⟩,hS⟩
  have c3p:=kz c3
  refine Aa ?_
  refine AB (.t3 1 2 4) ?_
  refine AA (Gs (Gt (Aj G4 rfl) (Gt (AG rfl Eh .m1 Ap.l0 rfl rfl) ?_)))
  refine Gt (Bs Io (by decide) (Zo hor (Kn.Hv r0) (Kn.own .m0)) rfl rfl (by omega) (by omega)) ?_
  refine Gt (DM rfl CM (Zo hor (Kn.Hv r0) (Kn.own .m0)) (by simp)) ?_
  refine Ga rfl (Gn (.t4 1 2 4 6) (Gs (Gt (Aj G4 rfl) (Gt (AG rfl Eh .m1 Ap.l0 rfl rfl) ?_))))
  refine Gt (Rz Tryz.underlying52 Ez rfl rfl (by decide) (by first | omega | (have h1:=Page.Hk ((q :: r).getD (0:Int).toNat []);have h2:=hI11.len ((q :: r).getD (0:Int).toNat []) (by simp);simp only [List.length_append,List.length_cons,List.length_nil] at *;omega))) ?_
  refine BJ rfl WM (.c rfl .n) .n (B2 _ r (by simp only [List.length_cons] at *;omega)) (fun w hS=>by have h:=(Kn.cut (l:=1) (r:=hx.len) De (Zo hor (Kn.Hv r0) (Kn.own .m0)) (by omega) (Nat.le_refl _) (bJ hor (VB.of k0) (VB.own .m0))) w hS;rw [show(((q :: r).take hx.len).drop 1)=r from by rw [List.take_of_length_le (by simp only [List.length_cons] at *;omega)];rfl] at h;exact h) (fun v2 B hv=>?_)
  obtain⟨y3,rfl,y4,rfl⟩:=hv
  refine Gt (Aj G4 rfl) ?_
  refine AU (AK Ap.l0 rfl rfl rfl MT rfl (.t (.t .h))) ?_
  refine Gn (.t4 1 2 4 6) (Gs (Gt (Aj KK rfl) (Gt (AG rfl A5 .m2 Ap.l1 rfl rfl) ?_)))
  refine Gt (Ax rfl rfl (IntWalk.i64_in _ (by first | omega | (have h1:=Page.Hk ((q :: r).getD (0:Int).toNat []);have h2:=hI11.len ((q :: r).getD (0:Int).toNat []) (by simp);simp only [List.length_append,List.length_cons,List.length_nil] at *;omega)))) ?_
  refine Gt (MG rfl rfl) (Gt (Aj KK rfl) ?_)
  refine AU (AK Ap.l1 rfl rfl rfl DD rfl (.t (.t .h))) ?_
  refine Gn (.t4 1 2 4 6) ?_
  refine BE (N:=9) [0,0,2,6,15,31,63,63,127] mix (by kernel_rfl) rfl ?_
  refine Pf 0 rfl (AY rfl Co .m2 (AS.id Ap.fl.len Ap.fl.one) rfl) (Pf 1 rfl (AD rfl) ?_)
  refine Ab 2 rfl rfl (by kernel_rfl) (Ln (JX (Dl dJ (.c rfl .n) (fun w hS=>LF _ (hI11.len _ (by simp)) w)))) ?_
  refine Pf 3 rfl (CZ rfl rfl (by first | omega | (have h1:=Page.Hk ((q :: r).getD (0:Int).toNat []);have h2:=hI11.len ((q :: r).getD (0:Int).toNat []) (by simp);simp only [List.length_append,List.length_cons,List.length_nil] at *;omega))) ?_
  refine Ab 4 rfl rfl (by kernel_rfl) (Ln (JX (Dl Xu (.c rfl (.c rfl .n)) (fun w hS=>EW _ _ (by first | omega | (have h1:=Page.Hk ((q :: r).getD (0:Int).toNat []);have h2:=hI11.len ((q :: r).getD (0:Int).toNat []) (by simp);simp only [List.length_append,List.length_cons,List.length_nil] at *;omega)) w)))) ?_
  refine Pf 5 rfl (AD rfl) (Pf 6 rfl (AL rfl rfl) (Pf 7 rfl (AL rfl rfl) ?_))
  refine Af 8 rfl (by kernel_rfl) ?_
  refine AU (AK (AS.id Ap.fl.len Ap.fl.one) rfl rfl rfl FH rfl (.t (.t .h))) ?_
  refine BN rfl ⟨?_,?_⟩
  · exact(Po rfl (AL rfl rfl) rfl rfl (Pk (Pk (Pk (Pk (Pk (Pk (Pk Ar))))))))
  refine A1 (by kernel_rfl) ?_
  refine AB (.t3 1 2 4) ?_
  refine AV ?_
  refine CJ (.c .h (.c (.t .h) (.c (.t .h) .n))) ?_
  refine Cf ?_
  refine WA (r) _ _ _ _ (9) _ _ (r) ?_ ?_ (.t3 1 2 4) (.refl _)
  · exact⟨hI11.next hak hct c3 (by assumption) rfl, .inr ⟨rfl,rfl,rfl⟩⟩
  · simp only [List.length_cons];omega
 refine Be (AW (AW (Ai ?_)))
 refine AB (.t2 2 4) ?_
 refine AA (Gs (Gt (AY rfl Co .m1 (AS.id Ap.fl.len Ap.fl.one) rfl) ?_))
 refine AU (AK (AS.id Ap.fl.len Ap.fl.one) rfl rfl rfl FH rfl (.t (.t .h))) ?_
 refine Ga rfl (Gn (.t2 4 5) (Ac ?_))
 refine AZ rfl (.cell rfl .m2 (.inl ⟨(by rw [Ap.fl.len];exact Co),rfl⟩) (.tmp rfl .n)) ?_
 intro w1 hS
 have hS:=(hS.perm (Ay.perm (.c .h .n))).A4
 have e:=hI11.bq c2
 exact⟨_, .inr ⟨c1,T,hx,g,zs,(by first | (rw [e];done) | (rw [e];rfl)),(by rw [e];exact hI11.hl),(by rw [e];exact hor),rfl⟩,hS⟩
theorem D5 (b:Nat)(V:AM)(ls:Vector BK 4)(ev:List Ing.Event)(n m:Nat)(hF:AH.Fit (A7 V ls ev) n m)(hn:n≤600000)(hm:m≤600000):Fa Tryz.prog 65 #[.pointer (some ⟨b,0,none⟩)] [Ad.box b 101 (AM.enc V),Ad.Da (CL 9 (AM.As V) ls),Ad.own (AM.last V) 56 16 ((ev).flatMap Ing.Event.enc)] (fun w=>(GV 2 Fy w∧2 ∉ Cj [Ad.box b 101 (AM.enc V),Ad.Da (CL 9 (AM.As V) ls),Ad.own (AM.last V) 56 16 ((ev).flatMap Ing.Event.enc)])∧(GV 0 AI.DP w∧0 ∉ Cj [Ad.box b 101 (AM.enc V),Ad.Da (CL 9 (AM.As V) ls),Ad.own (AM.last V) 56 16 ((ev).flatMap Ing.Event.enc)])∧(G3 7 w∧7 ∉ Cj [Ad.box b 101 (AM.enc V),Ad.Da (CL 9 (AM.As V) ls),Ad.own (AM.last V) 56 16 ((ev).flatMap Ing.Event.enc)])∧(G3 8 w∧8 ∉ Cj [Ad.box b 101 (AM.enc V),Ad.Da (CL 9 (AM.As V) ls),Ad.own (AM.last V) 56 16 ((ev).flatMap Ing.Event.enc)])) (fun v B=>∃ V' ls' ev',v = .tuple #[]∧A7 V' ls' ev'=AH.BZ (A7 V ls ev)∧B = [Ad.box b 101 (AM.enc V'),Ad.Da (CL 9 (AM.As V') ls'),Ad.own (AM.last V') 56 16 ((ev').flatMap Ing.Event.enc)]):=by
 intro w hS0 hH
 obtain⟨⟨gl0,gm0⟩,⟨gl1,gm1⟩,⟨gl2,gm2⟩,⟨gl3,gm3⟩⟩:=hH
 refine Am _ _ Tryz.func65 rfl rfl rfl (hS0) ?_
 refine Gs (Gm rfl (AQ (AA (Ag ?_))))
 refine Bo (.t2 5 0) ?_
 refine Bc (.t (.t .h)) ?_
 refine Bc (.t (.t .h)) ?_
 refine Bc (.t (.t .h)) ?_
 refine Hj (fun(k:Int) (V1:AM) (ls1:Vector BK 4) (ev1:List Ing.Event)=>0≤k∧k≤5∧(A7 V ls ev).BZ=(A7 V1 ls1 ev1).Fu (5 - k).toNat∧AH.Fit (A7 V1 ls1 ev1) (n+44 * k.toNat) (m+44 * k.toNat)) (fun(k:Int) (V1:AM) (ls1:Vector BK 4) (ev1:List Ing.Event)=>(5 - k).toNat) (fun(k:Int) (V1:AM) (ls1:Vector BK 4) (ev1:List Ing.Event)=> [(5, .int .i64 k)]) (fun(k:Int) (V1:AM) (ls1:Vector BK 4) (ev1:List Ing.Event)=> [Ad.box b 101 (AM.enc V1),Ad.Da (CL 9 (AM.As V1) ls1),Ad.own (AM.last V1) 56 16 (ev1.flatMap Ing.Event.enc)]) (0) (V) (ls) (ev) ?_ rfl rfl (fun k V1 ls1 ev1 hI1=>?_)
 · exact⟨by omega,by omega,rfl,hF⟩
 obtain⟨hI11,hI12,hI13,hI14⟩:=hI1
 refine Gs (Gt (BA rfl rfl) (AQ (AA (Aq ?_))))
 refine Gc (fun c1=>?_) (fun c1=>?_)
 ·
  have c1p:=kz c1
  refine Aa ?_
  refine AB (.t2 0 5) ?_
  refine AA (Aq (Ag (Gs (Ga rfl (AQ (AA (CD ?_)))))))
  refine Gm rfl (AQ (AA (Ag ?_)))
  refine Bo (.t4 2 7 0 5) ?_
  refine Bc (.t (.t .h)) ?_
  refine Bc (.t (.t .h)) ?_
  refine Bc (.t (.t .h)) ?_
  refine Od (fun(i:Int) (V2:AM) (ls2:Vector BK 4) (ev2:List Ing.Event) (c:Bool)=>0≤i∧i≤4∧((A7 V2 ls2 ev2),c)=(A7 V1 ls1 ev1).B8 i.toNat) (fun(i:Int) (V2:AM) (ls2:Vector BK 4) (ev2:List Ing.Event) (c:Bool)=>(4 - i).toNat) (fun(i:Int) (V2:AM) (ls2:Vector BK 4) (ev2:List Ing.Event) (c:Bool)=> [(2, .bool c),(7, .int .i64 i)]) (fun(i:Int) (V2:AM) (ls2:Vector BK 4) (ev2:List Ing.Event) (c:Bool)=> [Ad.box b 101 (AM.enc V2),Ad.Da (CL 9 (AM.As V2) ls2),Ad.own (AM.last V2) 56 16 (ev2.flatMap Ing.Event.enc)]) (0) (V1) (ls1) (ev1) (false) ?_ rfl rfl (fun i V2 ls2 ev2 c hI2=>?_)
  · exact⟨by omega,by omega,rfl⟩
  obtain⟨hI21,hI22,hI23⟩:=hI2
  refine Gs (Gt (BA rfl rfl) (AQ (AA (Aq ?_))))
  refine Gc (fun c2=>?_) (fun c2=>?_)
  ·
   have c2p:=kz c2
   have hi:0≤i∧i < 4:=⟨by omega,by omega⟩
   have hF2:=P8 hI14 hi.1 (by omega) hI23
   refine Aa ?_
   refine AB (.t4 0 2 5 7) ?_
   refine AA (Aq (Ag (Gs (Gm rfl (Ga rfl (Gn (.t5 0 2 3 5 7) (Gs ?_)))))))
   refine Gm rfl (Gm rfl (Gt (BV rfl) (Gt (Aj F3 rfl) ?_)))
   refine Gt (AN PG rfl rfl (by first | omega | exact hi.1 | exact hi.2) (by first | omega | exact hi.1 | exact hi.2)) ?_
   refine Ga rfl (Gn (.t5 0 2 4 5 7) (CD (Gm rfl (Gt (BV rfl) (Gt (Aj Ja rfl) ?_)))))
   refine Gt (AG rfl A5 .m0 ((AM.l1.comp (AS.ar (n:=4) A3.fl (by first | omega | exact hi))).comp A3.l0) rfl rfl) ?_
   refine Gt (Ak rfl rfl) (Gn (.t6 0 2 4 5 7 19) ?_)
   refine Gc (fun c3=>?_) (fun c3=>?_)
   ·
    have c3p:=kz c3
    refine Be (AW (Ai ?_))
    refine AB (.t4 0 2 5 7) ?_
    refine AA (AJ ?_)
    refine Gt (Ax rfl rfl (IntWalk.i64_in _ (by first | omega | exact hi.1 | exact hi.2))) ?_
    refine Gm rfl ?_
    refine AQ (AB (.t4 0 2 5 7) ?_)
    refine I9 (i+1) _ _ _ _ ?_ ?_ (.t4 2 7 0 5) (.refl _)
    · exact⟨by omega,by omega,((LU hi.1 hi.2 hI23).trans (BF c3)).symm⟩
    · omega
   have c3p:=kz c3
   refine Aa ?_
   refine AB (.t5 0 2 4 5 7) ?_
   refine AA ?_
   refine Bc (.t (.t .h)) ?_
   refine Bc (.t (.t .h)) ?_
   refine Bc (.t (.t .h)) ?_
   refine Qi (Lm:= [_,_,_]) (fun(V3:AM) (ls3:Vector BK 4)=>(A7 V3 ls3 ev2)=(A7 V2 ls2 ev2).set i ((A7 V2 ls2 ev2).at_ i).BZ) (fun(V3:AM) (ls3:Vector BK 4)=> []) (fun(V3:AM) (ls3:Vector BK 4)=> [Ad.box b 101 (AM.enc V3),Ad.Da (CL 9 (AM.As V3) ls3),Ad.own (AM.last V3) 56 16 (ev2.flatMap Ing.Event.enc)]) (.t5 0 2 4 5 7) rfl ?_ (fun V3 ls3 hC=>?_)
   ·
    refine FG (k:=i) hi.1 hi.2 (fun sv sl hsv hlv hln=>?_)
    refine BE (N:=17) [0,0,2,6,14,0,32,96,224,480,1022,2046,4094,4094,8191,24575,57343] mix (by kernel_rfl) rfl ?_
    refine Pf 0 rfl (AD rfl) (Pf 1 rfl (AD rfl) (Pf 2 rfl (BV rfl) (Pf 3 rfl (Aj Dy rfl) (Pf 4 rfl (AY rfl Co .m3 ((AS.BB V2 hi.1 hi.2).comp A3.l4) rfl) (Pf 5 rfl (AD rfl) (Pf 6 rfl (BV rfl) (Pf 7 rfl (Aj LH rfl) ?_)))))))
    refine Pf 8 rfl (Aj Qr rfl) (Pf 9 rfl (AG rfl A5 .m3 (((AS.BB V2 hi.1 hi.2).comp A3.l2).comp AR.l5) rfl rfl) ?_)
    refine Af 10 rfl (by kernel_rfl) ?_
    refine BJ rfl da (.c rfl (.c rfl .n)) .n (NF _ _ _ (by rw [← hlv];exact W5 hF2 hi.1 hi.2)) (fun w hS=>⟨(Kn.own .m1) w hS,(VB.own .m1) w hS⟩) (fun v1 B hv=>?_)
    rcases hv with ⟨y2,rfl,rfl⟩ | ⟨y3,y4,y5,y6,y7,rfl,y8,y9,rfl⟩
    ·
     refine Bf rfl ⟨?_,?_⟩
     · exact(Pk (Pk (Pk (Pk (Pk (Pk (Pk (Pk (Pk (Po rfl (AD rfl) rfl rfl Ar))))))))))
     refine Pf 11 rfl (AD rfl) (Pf 12 rfl (AL rfl rfl) (Pf 13 rfl (AL rfl rfl) (Pf 14 rfl (BV rfl) (Pf 15 rfl (Aj Dy rfl) ?_))))
     refine Af 16 rfl (by kernel_rfl) ?_
     refine AU (AK ((AS.BB V2 hi.1 hi.2).comp A3.l4) rfl rfl rfl FH rfl (.t (.t (.t .h)))) ?_
     refine BN rfl ⟨?_,?_⟩
     · exact(Pk (Pk (Po rfl (AL rfl rfl) rfl rfl (Pk (Pk (Pk (Pk (Pk (Pk (Pk (Pk (Pk (Pk (Pk (Pk Ar)))))))))))))))
     refine A1 (by kernel_rfl) ?_
     refine AB (.t5 0 2 4 5 7) ?_
     refine CJ (.c .h (.c .h (.c .h (.c .h (.c .h .n))))) ?_
     refine Re hi.1 hi.2 (by rfl) (by rfl) (by rfl) ?_
     refine Ej _ _ ?_ (.t5 0 2 4 5 7) (.refl _)
     · exact Es hi.1 hi.2 hsv hlv (f:=Aw.BZ) (L1 hln.2.1 y2)
    refine Bf rfl ⟨?_,?_⟩
    · exact(Pk (Pk (Pk (Pk (Pk (Pk (Pk (Pk (Pk (Po rfl (AD rfl) rfl rfl Ar))))))))))
    refine Pf 11 rfl (AD rfl) (Pf 12 rfl (AL rfl rfl) (Pf 13 rfl (AL rfl rfl) (Pf 14 rfl (BV rfl) (Pf 15 rfl (Aj Dy rfl) ?_))))
    refine Af 16 rfl (by kernel_rfl) ?_
    refine AU (AK ((AS.BB V2 hi.1 hi.2).comp A3.l4) rfl rfl rfl FH rfl (.t (.t (.t (.t .h))))) ?_
    refine BN rfl ⟨?_,?_⟩
    · exact(Pk (Pk (Po rfl (AL rfl rfl) rfl rfl (Pk (Pk (Pk (Pk (Pk (Pk (Pk (Pk (Pk (Pk (Pk (Pk Ar)))))))))))))))
    refine A1 (by kernel_rfl) ?_
    refine AB (.t5 0 2 4 5 7) ?_
    refine CJ (.c .h (.c (.t .h) .n)) ?_
    refine cj y9 ?_
    refine CJ (.c (.t .h) (.c .h (.c .h (.c .h (.c .h .n))))) ?_
    refine Re hi.1 hi.2 (by rfl) (by rfl) (by rfl) ?_
    refine Ej _ _ ?_ (.t5 0 2 4 5 7) (.refl _)
    · exact Es hi.1 hi.2 hsv hlv (f:=Aw.BZ) (Ye hln.2.1 y3 _)
   refine Gs (Gm rfl (Gt (BV rfl) (Gt (Aj Dy rfl) (Gt (Aj JT rfl) ?_))))
   refine Gt (AG rfl DO .m0 (((AM.l1.comp (AS.ar (n:=4) A3.fl (by first | omega | exact hi))).comp A3.l4).comp Ap.l4) rfl rfl) ?_
   refine Gn (.t6 0 2 4 5 7 40) ?_
   refine Gc (fun c4=>?_) (fun c4=>?_)
   ·
    have c4p:=kz c4
    refine Gs (Gm rfl (Gm rfl ?_))
    refine BJ rfl aj (.c rfl (.c rfl .n)) (.c .h (.c .h (.c .h .n))) (IQ _ V3 ls3 ev2 i _ _ hi (by rw [hC];exact hF2.YF hi.1 hi.2) (by omega) (by omega)) (fun w hS=>⟨gl0.pull gm0 hS (.c .h (.c .h (.c .h .n))),gl1.pull gm1 hS (.c .h (.c .h (.c .h .n))),gl2.pull gm2 hS (.c .h (.c .h (.c .h .n))),gl3.pull gm3 hS (.c .h (.c .h (.c .h .n)))⟩) (fun v13 B hv=>?_)
    obtain⟨y14,y15,y16,rfl,y17,rfl⟩:=hv
    refine Gn (.t3 0 5 7) (AJ (Ga rfl (AQ (AV (AA (AJ ?_))))))
    refine Gt (Ax rfl rfl (IntWalk.i64_in _ (by first | omega | exact hi.1 | exact hi.2))) ?_
    refine Gm rfl ?_
    refine AQ (AB (.t4 0 2 5 7) ?_)
    refine I9 (i+1) _ _ _ _ ?_ ?_ (.t4 2 7 0 5) (.refl _)
    · exact⟨by omega,by omega,(((LU hi.1 hi.2 hI23).trans ((AX c3).trans (BF (show _=true from(Uf hi.1 hi.2 hC).symm.trans c4)))).trans (by rw [← hC,← y17])).symm⟩
    · omega
   have c4p:=kz c4
   refine Aa ?_
   refine AB (.t4 0 2 5 7) ?_
   refine AV (AA (AJ ?_))
   refine Gt (Ax rfl rfl (IntWalk.i64_in _ (by first | omega | exact hi.1 | exact hi.2))) ?_
   refine Gm rfl ?_
   refine AQ (AB (.t4 0 2 5 7) ?_)
   refine I9 (i+1) _ _ _ _ ?_ ?_ (.t4 2 7 0 5) (.refl _)
   · exact⟨by omega,by omega,(((LU hi.1 hi.2 hI23).trans ((AX c3).trans (AX (show _=false from(Uf hi.1 hi.2 hC).symm.trans c4)))).trans (by rw [← hC])).symm⟩
   · omega
  have c2p:=kz c2
  obtain rfl:i=4:=by omega
  have hE:(A7 V1 ls1 ev1).B8 4=((A7 V2 ls2 ev2),c):=hI23.symm
  refine Be (AW (AW (Ai ?_)))
  refine AB (.t3 0 2 5) ?_
  refine AA (Gs (Gm rfl (Gt (BR rfl) (Gn (.t3 0 5 46) ?_))))
  refine Gc (fun c5=>?_) (fun c5=>?_)
  ·
   have c5p:=kz c5
   refine Ac (AT (AE (AE (AT ?_))))
   refine AZ rfl .n ?_
   intro w1 hS
   have hS:=(hS.perm (Ay.perm (.c .h (.c .h (.c .h .n))))).A4
   refine⟨_,⟨V2,ls2,ev2,rfl,?ga1,rfl⟩,hS⟩
   case ga1=>exact(hI13.trans ((OO hI11 (by omega)).trans ((BF (show(!((A7 V1 ls1 ev1).B8 4).2)=true by rw [hE];exact c5)).trans (by rw [hE])))).symm
  have c5p:=kz c5
  refine Aa ?_
  refine AB (.t2 0 5) ?_
  refine AV (AA (AJ ?_))
  refine Gt (Ax rfl rfl (IntWalk.i64_in _ (by first | omega | exact hi.1 | exact hi.2))) ?_
  refine Gm rfl ?_
  refine AQ (AB (.t2 0 5) ?_)
  refine C0 (k+1) _ _ _ ?_ ?_ (.t2 5 0) (.refl _)
  · exact⟨by omega,by omega,hI13.trans ((OO hI11 (by omega)).trans ((AX (show(!((A7 V1 ls1 ev1).B8 4).2)=false by rw [hE];exact c5)).trans (by rw [hE]))),(P8 hI14 (by omega) (by omega) hI23).mono (by omega) (by omega)⟩
  · omega
 have c1p:=kz c1
 refine Be (AW (AW (Ai ?_)))
 refine Bn rfl .n ?_
 intro w1 hS
 have hS:=(hS.perm (Ay.perm (.c .h (.c .h (.c .h .n))))).A4
 refine⟨_,⟨V1,ls1,ev1,rfl,?ga2,rfl⟩,hS⟩
 case ga2=>exact(hI13.trans (by rw [show(5 - k).toNat=0 by omega];rfl)).symm
theorem Pb (b:Nat)(V:AM)(ls:Vector BK 4)(ev:List Ing.Event)(d:Int)(n m:Nat)(hF:AH.Fit (A7 V ls ev) n m)(hn:n≤500000)(hm:m≤500000):Fa Tryz.prog 60 #[.pointer (some ⟨b,0,none⟩), .int .i64 d] [Ad.box b 101 (AM.enc V),Ad.Da (CL 9 (AM.As V) ls),Ad.own (AM.last V) 56 16 ((ev).flatMap Ing.Event.enc)] (fun w=>(GV 2 Fy w∧2 ∉ Cj [Ad.box b 101 (AM.enc V),Ad.Da (CL 9 (AM.As V) ls),Ad.own (AM.last V) 56 16 ((ev).flatMap Ing.Event.enc)])∧(GV 0 AI.DP w∧0 ∉ Cj [Ad.box b 101 (AM.enc V),Ad.Da (CL 9 (AM.As V) ls),Ad.own (AM.last V) 56 16 ((ev).flatMap Ing.Event.enc)])∧(G3 7 w∧7 ∉ Cj [Ad.box b 101 (AM.enc V),Ad.Da (CL 9 (AM.As V) ls),Ad.own (AM.last V) 56 16 ((ev).flatMap Ing.Event.enc)])∧(G3 8 w∧8 ∉ Cj [Ad.box b 101 (AM.enc V),Ad.Da (CL 9 (AM.As V) ls),Ad.own (AM.last V) 56 16 ((ev).flatMap Ing.Event.enc)])) (fun v B=>∃ V' ls' ev',v = .tuple #[]∧A7 V' ls' ev'=AH.O2 (A7 V ls ev) d∧B = [Ad.box b 101 (AM.enc V'),Ad.Da (CL 9 (AM.As V') ls'),Ad.own (AM.last V') 56 16 ((ev').flatMap Ing.Event.enc)]):=by
 intro w hS0 hH
 obtain⟨⟨gl0,gm0⟩,⟨gl1,gm1⟩,⟨gl2,gm2⟩,⟨gl3,gm3⟩⟩:=hH
 refine Am _ _ Tryz.func60 rfl rfl rfl (hS0) ?_
 refine CD (Gm rfl (AQ (AA (Ag ?_))))
 refine Bo (.t3 8 0 1) ?_
 refine Bc (.t (.t .h)) ?_
 refine Bc (.t (.t .h)) ?_
 refine Bc (.t (.t .h)) ?_
 refine Hj (fun(i:Int) (V1:AM) (ls1:Vector BK 4) (ev1:List Ing.Event)=>0≤i∧i≤4∧(A7 V1 ls1 ev1)=AH.turns (A7 V ls ev) i.toNat) (fun(i:Int) (V1:AM) (ls1:Vector BK 4) (ev1:List Ing.Event)=>(4 - i).toNat) (fun(i:Int) (V1:AM) (ls1:Vector BK 4) (ev1:List Ing.Event)=> [(8, .int .i64 i)]) (fun(i:Int) (V1:AM) (ls1:Vector BK 4) (ev1:List Ing.Event)=> [Ad.box b 101 (AM.enc V1),Ad.Da (CL 9 (AM.As V1) ls1),Ad.own (AM.last V1) 56 16 (ev1.flatMap Ing.Event.enc)]) (0) (V) (ls) (ev) ?_ rfl rfl (fun i V1 ls1 ev1 hI1=>?_)
 · exact⟨by omega,by omega,rfl⟩
 obtain⟨hI11,hI12,hI13⟩:=hI1
 refine Gs (Gt (BA rfl rfl) (AQ (AA (Aq ?_))))
 refine Gc (fun c1=>?_) (fun c1=>?_)
 ·
  have c1p:=kz c1
  have hi:0≤i∧i < 4:=⟨by omega,by omega⟩
  refine Aa ?_
  refine AB (.t3 0 1 8) ?_
  refine AA (Aq (Ag (Gs (Gm rfl (Ga rfl (Gn (.t4 0 1 4 8) (AJ ?_)))))))
  refine Gm rfl (Gm rfl (Gm rfl (Gt (BV rfl) (Gt (Aj F3 rfl) ?_))))
  refine Gt (AN PG rfl rfl (by first | omega | exact hi.1 | exact hi.2) (by first | omega | exact hi.1 | exact hi.2)) ?_
  refine BJ rfl dK (.c rfl (.c rfl .n)) (.c .h (.c .h (.c .h .n))) (Qb _ V1 ls1 ev1 i (n+44) (m+44) hi (by rw [hI13];exact(AH.Kc hF i.toNat (by omega)).mono (by omega) (by omega)) (by omega) (by omega)) (fun w hS=>⟨gl0.pull gm0 hS (.c .h (.c .h (.c .h .n))),gl1.pull gm1 hS (.c .h (.c .h (.c .h .n))),gl2.pull gm2 hS (.c .h (.c .h (.c .h .n))),gl3.pull gm3 hS (.c .h (.c .h (.c .h .n)))⟩) (fun v1 B hv=>?_)
  obtain⟨y2,y3,y4,rfl,y5,rfl⟩:=hv
  refine AQ (AB (.t3 0 1 8) ?_)
  refine AV (AA (AJ ?_))
  refine Gt (Ax rfl rfl (IntWalk.i64_in _ (by first | omega | exact hi.1 | exact hi.2))) ?_
  refine Gm rfl ?_
  refine AQ (AB (.t3 0 1 8) ?_)
  refine C0 (i+1) _ _ _ ?_ ?_ (.t3 8 0 1) (.refl _)
  · exact⟨by omega,by omega,y5.trans (by rw [hI13];exact(S6 hI11).symm)⟩
  · omega
 have c1p:=kz c1
 obtain rfl:i=4:=by omega
 have hF1:=AH.Kc hF 4 (Nat.le_refl 4)
 rw [show(4:Nat)=(4:Int).toNat from rfl,← hI13] at hF1
 have hrl:(AF.CY V1.w d).2.1.length≤78:=AF.QX hF1.F5.IP d
 have hrs:=AF.K4 (draw:=d) hF1.F5
 have hF4:=((hF1.land hrs.1).HE hrs.2).mono (Nat.add_le_add_left hrl _) (Nat.add_le_add_left hrl _)
 refine Be (AW (AW (Ai ?_)))
 refine AB (.t2 0 1) ?_
 refine AA (Gs (Gm rfl (Gt (BV rfl) (Gt (Aj ET rfl) (Gt (AY rfl Ba .m0 AM.l0 rfl) (Gm rfl ?_))))))
 refine BJ rfl dQ (.c rfl (.c rfl .n)) .n (MX V1.w d hF1.F5.IP) (fun w hS=>gl1.pull gm1 hS .n) (fun v6 B hv=>?_)
 obtain⟨y7,rfl,y8,rfl⟩:=hv
 refine Gm rfl (Gt (AL rfl rfl) (Gt (AL rfl rfl) (Gt (AL rfl rfl) ?_)))
 refine BG rfl NQ rfl (fun b1=>?_)
 refine AU (AK (AS.id AI.fl.len AI.fl.one) rfl rfl rfl EF rfl .h) ?_
 refine Ga rfl (Ga rfl (Gn (.t3 0 5 6) (Gs (Gm rfl (Gt (AY rfl Ba .m0 (AS.id AI.fl.len AI.fl.one) rfl) (Gt (BV rfl) (Gt (Aj ET rfl) ?_)))))))
 refine AU (AK AM.l0 rfl rfl rfl EF rfl (.t (.t .h))) ?_
 refine Gn (.t2 0 6) (Gs (Gm rfl (Gm rfl ?_)))
 refine BJ rfl Vj (.c rfl (.c rfl .n)) (.c (.t (.t .h)) (.c (.t (.t .h)) (.c (.t (.t .h)) (.c (.t .h) .n)))) (E4 _ { V1 with w:=(AF.CY V1.w d).1 } ls1 ev1 _ (AF.CY V1.w d).2.1 _ (by assumption) (Gx hF1) (by omega) (Nat.le_trans hF1.last (by omega)) (fun e he c _=>hrs.2 e he)) (fun w hS=>⟨gl0.pull gm0 hS (.c (.t (.t .h)) (.c (.t (.t .h)) (.c (.t (.t .h)) (.c (.t .h) .n)))),gl1.pull gm1 hS (.c (.t (.t .h)) (.c (.t (.t .h)) (.c (.t (.t .h)) (.c (.t .h) .n))))⟩) (fun v10 B hv=>?_)
 obtain⟨y11,y12,y13,rfl,y14,rfl⟩:=hv
 refine Gn (.t1 0) (AJ (Gm rfl ?_))
 refine BJ rfl SG (.c rfl .n) (.c .h (.c .h (.c .h .n))) (D5 _ y11 y12 y13 _ _ (by rw [y14];exact hF4) (by omega) (by omega)) (fun w hS=>⟨gl0.pull gm0 hS (.c .h (.c .h (.c .h .n))),gl1.pull gm1 hS (.c .h (.c .h (.c .h .n))),gl2.pull gm2 hS (.c .h (.c .h (.c .h .n))),gl3.pull gm3 hS (.c .h (.c .h (.c .h .n)))⟩) (fun v15 B hv=>?_)
 obtain⟨y16,y17,y18,rfl,y19,rfl⟩:=hv
 refine AQ ?_
 refine Bn rfl .n ?_
 intro w1 hS
 have hS:=(hS.perm (Ay.perm (.c .h (.c .h (.c .h .n))))).A4
 refine⟨_,⟨y16,y17,y18,rfl,?ga1,rfl⟩,hS⟩
 case ga1=>rw [y19,y14,N6];show AH.BZ (AH.HE { (A7 V1 ls1 ev1) with w:=(AF.CY ((A7 V1 ls1 ev1)).w d).1 } (AF.CY ((A7 V1 ls1 ev1)).w d).2.1)=_;rw [hI13];rfl
theorem GA (opt:Int)(w:World):En Tryz.prog 73 #[.int .i64 opt] w fun v w'=>v = .tuple #[.int .i64 (AR.place opt).1, .bool (AR.place opt).2.1, .bool (AR.place opt).2.2]∧B9 w w':=by
 refine Am [] [] Tryz.func73 rfl rfl rfl (St.start w []) ?_
 refine Gs (Ga rfl (Ga rfl (Ga rfl (Gn (.t1 0) (CD (Gm rfl (Gn (.t1 5) ?_)))))))
 refine Ag (Gs (Gt (Ak rfl rfl) (Ga rfl (Gn (.t2 5 6) ?_))))
 refine Gc (fun c1=>?_) (fun c1=>?_)
 ·
  refine Gs (Ga rfl (Ga rfl (Ga rfl (Gn (.t3 2 3 4) (Ac (AT (AE ?_)))))))
  refine AZ rfl (.tmp rfl (.tmp rfl (.tmp rfl .n))) ?_
  intro w1 hS;refine⟨?_,hS.Al⟩;simp only [AR.place,c1,↓reduceIte,Bool.false_eq_true];rfl
 refine Gs (Gt (Ak rfl rfl) (Ga rfl (Gn (.t2 5 8) ?_)))
 refine Gc (fun c2=>?_) (fun c2=>?_)
 ·
  refine Gs (Ga rfl (Ga rfl (Ga rfl (Gn (.t3 2 3 4) (Ac (AT (AE ?_)))))))
  refine AZ rfl (.tmp rfl (.tmp rfl (.tmp rfl .n))) ?_
  intro w1 hS;refine⟨?_,hS.Al⟩;simp only [AR.place,c1,c2,↓reduceIte,Bool.false_eq_true];rfl
 refine Gs (Gt (Ak rfl rfl) (Ga rfl (Gn (.t1 10) ?_)))
 refine Gc (fun c3=>?_) (fun c3=>?_)
 ·
  refine Gs (Ga rfl (Ga rfl (Ga rfl (Gn (.t3 2 3 4) (Ac (AT (AE ?_)))))))
  refine AZ rfl (.tmp rfl (.tmp rfl (.tmp rfl .n))) ?_
  intro w1 hS;refine⟨?_,hS.Al⟩;simp only [AR.place,c1,c2,c3,↓reduceIte,Bool.false_eq_true];rfl
 refine Aa ?_
 refine AB (.nil _) ?_
 refine AV (AA (Gs (Ga rfl (Ga rfl (Ga rfl (AQ (AA ?_)))))))
 refine Ac ?_
 refine AZ rfl (.tmp rfl (.tmp rfl (.tmp rfl .n))) ?_
 intro w1 hS;refine⟨?_,hS.Al⟩;simp only [AR.place,c1,c2,c3,↓reduceIte,Bool.false_eq_true];rfl
theorem GX (X:AR)(w:World):En Tryz.prog 55 #[.agg X.enc.toArray] w fun v w'=>v = .bool X.Bj∧B9 w w':=by
 refine Am [] [] Tryz.func55 rfl rfl rfl (St.start w []) ?_
 refine Gs ?_
 refine B0 rfl rfl rfl (fun b1=>?_)
 refine Ga rfl (Gn (.t1 1) (CD (Gm rfl (AQ (AA (Ag ?_))))))
 refine Bo (.t2 4 1) ?_
 refine CT (fun(k:Int)=>0≤k∧k≤3∧X.Bj=(B7 3 (fun i=>!X.OT i) (3 - k).toNat && (!(!decide (X.us.at 2=0) || !decide (X.Gk.at 0=0)) && X.Pt))) (fun(k:Int)=>(3 - k).toNat) (fun(k:Int)=> [(4, .int .i64 k)]) (fun(k:Int)=> []) (0) ?_ rfl rfl (fun k hI1=>?_)
 · exact⟨Int.le_refl _,by omega,rfl⟩
 obtain⟨hI11,hI12,hI13⟩:=hI1
 refine Gs (Gt (BA rfl rfl) (AQ (AA (Aq ?_))))
 refine Gc (fun c1=>?_) (fun c1=>?_)
 ·
  have c1p:=kz c1
  rw [Di _ (by omega)] at hI13
  refine Aa ?_
  refine AB (.t2 1 4) ?_
  refine AA (Aq (Ag (Gs (Gm rfl (Ga rfl (Gn (.t3 1 3 4) (Gs ?_)))))))
  refine Gm rfl (Gt (Aj LD rfl) ?_)
  refine Gt (AN Kz rfl rfl (by omega) (by omega)) ?_
  refine Gt (AG rfl A5 .m0 (AR.l3.comp (AS.ar (n:=3) B1 (by omega))) rfl rfl) ?_
  refine Gt (BA rfl rfl) (Gm rfl (Bg 12 rfl rfl (fun q=>AD rfl) (Bg 12 rfl rfl (fun q=>Aj LD rfl) ?_)))
  refine Bg 12 rfl rfl (fun q=>by have q1:=q;(try simp at q1);exact AN Kz (cF rfl q) (cF rfl q) (by omega) (by omega)) ?_
  refine Bg 12 rfl rfl (fun q=>by have q1:=q;(try simp at q1);exact AG (cF rfl q) A5 .m0 (AR.l3.comp (AS.ar (n:=3) B1 (by omega))) rfl rfl) ?_
  refine Bg 12 rfl rfl (fun q=>Cp (cF rfl q) rfl) ?_
  refine Gt (BU rfl rfl (fun h=>by rw [h];rfl)) ?_
  refine Gm rfl (Bg 19 rfl rfl (fun q=>AD rfl) (Bg 19 rfl rfl (fun q=>Aj J4 rfl) ?_))
  refine Bg 19 rfl rfl (fun q=>by have q1:=q;(try simp at q1);exact AN Kz (cF rfl q) (cF rfl q) (by omega) (by omega)) ?_
  refine Bg 19 rfl rfl (fun q=>by have q1:=q;(try simp at q1);exact AG (cF rfl q) A5 .m0 (AR.l4.comp (AS.ar (n:=3) B1 (by omega))) rfl rfl) ?_
  refine Bg 19 rfl rfl (fun q=>BA (cF rfl q) rfl) ?_
  refine Gt (BU rfl rfl (fun h=>by rw [h];rfl)) ?_
  refine Gm rfl (Bg 26 rfl rfl (fun q=>AD rfl) (Bg 26 rfl rfl (fun q=>Aj J4 rfl) ?_))
  refine Bg 26 rfl rfl (fun q=>by have q1:=q;(try simp at q1);exact AN Kz (cF rfl q) (cF rfl q) (by omega) (by omega)) ?_
  refine Bg 26 rfl rfl (fun q=>by have q1:=q;(try simp at q1);exact AG (cF rfl q) A5 .m0 (AR.l4.comp (AS.ar (n:=3) B1 (by omega))) rfl rfl) ?_
  refine Bg 26 rfl rfl (fun q=>Cp (cF rfl q) rfl) ?_
  refine Gt (BU rfl rfl (fun h=>by rw [h];rfl)) ?_
  refine Gn (.t3 1 4 32) ?_
  refine Gc (fun c2=>?_) (fun c2=>?_)
  ·
   refine Gs (Ga rfl (Gn (.t1 2) (Ac (AT (AE (AE (AT ?_)))))))
   refine AE ?_
   refine AZ rfl (.tmp rfl .n) ?_
   intro w1 hS;refine⟨congrArg Value.bool ?_,hS.Al⟩;rw [hI13,AR.OT,c2];rfl
  have c2p:=kz c2
  refine Aa ?_
  refine AB (.t2 1 4) ?_
  refine AV (AA (AJ ?_))
  refine Gt (Ax rfl rfl (IntWalk.i64_in _ (by omega))) ?_
  refine Gm rfl ?_
  refine AQ (AB (.t2 1 4) ?_)
  refine Bz (k+1) ?_ ?_ (.t2 4 1) (.refl _)
  · exact⟨by omega,by omega,by rw [hI13,AR.OT,c2];rfl⟩
  · omega
 have c1p:=kz c1
 obtain rfl:k=3:=by omega
 refine Be (AW (AW (Ai ?_)))
 refine AB (.t1 1) ?_
 refine AA (CD (Gt (Aj LD rfl) ?_))
 refine Gt (AN Kz rfl rfl (by decide) (by decide)) ?_
 refine Gt (AG rfl A5 .m0 (AR.l3.comp (AS.arr (n:=3) B1 (by decide) (by decide))) rfl rfl) ?_
 refine Gt (CN rfl rfl) (Gm rfl (Bg 38 rfl rfl (fun q=>Aj J4 rfl) ?_))
 refine Bg 38 rfl rfl (fun q=>AN Kz (cF rfl q) rfl (by decide) (by decide)) ?_
 refine Bg 38 rfl rfl (fun q=>AG (cF rfl q) A5 .m0 (AR.l4.comp (AS.arr (n:=3) B1 (by decide) (by decide))) rfl rfl) ?_
 refine Bg 38 rfl rfl (fun q=>CN (cF rfl q) rfl) ?_
 refine Gt (BU rfl rfl (fun h=>by rw [h];rfl)) ?_
 refine Gn (.t2 1 43) ?_
 refine Gc (fun c3=>?_) (fun c3=>?_)
 ·
  refine Gs (Ga rfl (Gn (.t1 2) (Ac (AE ?_))))
  refine AZ rfl (.tmp rfl .n) ?_
  intro w1 hS;refine⟨congrArg Value.bool ?_,hS.Al⟩;rw [hI13,c3];rfl
 refine Aa ?_
 refine AB (.t1 1) ?_
 refine AA (Gs (Gt (Aj F0 rfl) (Gt (AG rfl A5 .m0 AR.l0 rfl rfl) (Gt (CK rfl rfl) (Gm rfl (Bb 47 rfl rfl (fun q=>Aj F0 rfl) (Bb 47 rfl rfl (fun q=>AG (BX rfl q) A5 .m0 AR.l0 rfl rfl) ?_)))))))
 refine Bb 47 rfl rfl (fun q=>Ic (BX rfl q) rfl) (Gt (BI rfl rfl (fun h=>h)) (Gm rfl (Bb 52 rfl rfl (fun q=>Aj F0 rfl) (Bb 52 rfl rfl (fun q=>AG (BX rfl q) A5 .m0 AR.l0 rfl rfl) (Bb 52 rfl rfl (fun q=>Ak (BX rfl q) rfl) (Bb 52 rfl rfl (fun q=>Aj LS rfl) (Bb 52 rfl rfl (fun q=>AG (BX rfl q) A5 .m0 AR.l1 rfl rfl) ?_)))))))
 refine Bb 52 rfl rfl (fun q=>CN (BX rfl q) rfl) (Bb 52 rfl rfl (fun q=>Ew Tryz.underlying4 (BX rfl q) (BX rfl q)) (Gt (BI rfl rfl (fun h=>h)) (Gm rfl (Bb 61 rfl rfl (fun q=>Aj LS rfl) (Bb 61 rfl rfl (fun q=>AG (BX rfl q) A5 .m0 AR.l1 rfl rfl) (Bb 61 rfl rfl (fun q=>Ak (BX rfl q) rfl) (Bb 61 rfl rfl (fun q=>AD (BX rfl q)) ?_)))))))
 refine C3 (t:=65) rfl rfl rfl (fun qc q=>Aj LS rfl) ?_
 refine C3 (t:=65) rfl rfl rfl (fun qc q=>AG (BX rfl (by rw [qc,q];rfl)) A5 .m0 AR.l1 rfl rfl) ?_
 refine C3 (t:=65) rfl rfl rfl (fun qc q=>CK (BX rfl (by rw [qc,q];rfl)) rfl) ?_
 refine C3 (t:=65) rfl rfl rfl (fun qc q=>AD (BX rfl (by rw [qc,q];rfl))) ?_
 refine DX (t:=69) rfl rfl rfl (fun qc q=>Aj LS rfl) ?_
 refine DX (t:=69) rfl rfl rfl (fun qc q=>AG (BX rfl (by rw [qc,q];rfl)) A5 .m0 AR.l1 rfl rfl) ?_
 refine DX (t:=69) rfl rfl rfl (fun qc q=>Ic (BX rfl (by rw [qc,q];rfl)) rfl) ?_
 refine C3 (t:=65) rfl rfl rfl (fun qc q=>BI (BX rfl (by rw [qc,q];rfl)) rfl (fun h=>by rw [qc,q,h];rfl)) ?_
 refine Bb 61 rfl rfl (fun q=>BU (BX rfl q) rfl (fun h=>by rw [q,h];rfl)) ?_
 refine Gt (BI rfl rfl (fun h=>h)) (Gm rfl (Bb 76 rfl rfl (fun q=>Aj HD rfl) (Bb 76 rfl rfl (fun q=>AG (BX rfl q) CM .m0 AR.l2 rfl rfl) (Bb 76 rfl rfl (fun q=>BL rfl Tryz.underlying9 (BX rfl q)) (Bb 76 rfl rfl (fun q=>Ic (BX rfl q) rfl) (Gt (BI rfl rfl (fun h=>h)) (Gm rfl ?_)))))))
 refine Bb 82 rfl rfl (fun q=>Aj F0 rfl) (Bb 82 rfl rfl (fun q=>AG (BX rfl q) A5 .m0 AR.l0 rfl rfl) (Bb 82 rfl rfl (fun q=>CK (BX rfl q) rfl) (Bb 82 rfl rfl (fun q=>AD (BX rfl q)) ?_)))
 refine C3 (t:=86) rfl rfl rfl (fun qc q=>Aj HD rfl) ?_
 refine C3 (t:=86) rfl rfl rfl (fun qc q=>AG (BX rfl (by rw [qc,q];rfl)) CM .m0 AR.l2 rfl rfl) ?_
 refine C3 (t:=86) rfl rfl rfl (fun qc q=>Bu (BX rfl (by rw [qc,q];rfl)) rfl) ?_
 refine Bb 82 rfl rfl (fun q=>BU (BX rfl q) rfl (fun h=>by rw [q,h];rfl)) ?_
 refine Gt (BI rfl rfl (fun h=>h)) (Gm rfl (Bb 92 rfl rfl (fun q=>Aj Qr rfl) (Bb 92 rfl rfl (fun q=>AG (BX rfl q) A5 .m0 AR.l5 rfl rfl) (Bb 92 rfl rfl (fun q=>CK (BX rfl q) rfl) (Gt (BI rfl rfl (fun h=>h)) (Gm rfl (Bb 97 rfl rfl (fun q=>Aj Qr rfl) ?_)))))))
 refine Bb 97 rfl rfl (fun q=>AG (BX rfl q) A5 .m0 AR.l5 rfl rfl) (Bb 97 rfl rfl (fun q=>Ic (BX rfl q) rfl) (Gt (BI rfl rfl (fun h=>h)) (Ga rfl (Gn (.t1 2) (Ac ?_)))))
 refine AZ rfl (.tmp rfl .n) ?_
 intro w1 hS;refine⟨congrArg Value.bool ?_,hS.Al⟩;rw [hI13,c3];rfl
theorem C2 (verb opt:Int)(h0:0≤verb∧verb≤255)(h1:0≤opt∧opt≤255)(w:World):En Tryz.prog 74 #[.int .i64 verb, .int .i64 opt] w fun v w'=>v=BT (AR.WU verb opt)∧B9 w w':=by
 refine Am [] [] Tryz.func74 rfl rfl rfl (St.start w []) ?_
 refine Gs (Ga rfl (Gn (.t2 0 1) (Gs (Gm rfl ?_))))
 refine Gt (Ot Tryz.underlying5 Tryz.underlying3 rfl (IntWalk.u8_in _ (by omega))) ?_
 refine Gm rfl ?_
 refine Gt (Ot Tryz.underlying5 Tryz.underlying3 rfl (IntWalk.u8_in _ (by omega))) ?_
 refine Xh (cs:=CA (n:=3) aa (Vector.replicate 3 default)) rfl Tryz.underlying105 WB aA (by decide) (by decide) (by kernel_rfl) (.cons (AS.arr (n:=3) (i:=0) cz (by decide) (by decide)) rfl rfl rfl (.cons (AS.arr (n:=3) (i:=1) cz (by decide) (by decide)) rfl rfl rfl (.cons (AS.arr (n:=3) (i:=2) cz (by decide) (by decide)) rfl rfl rfl .nil))) ((Ff cz).len _) (fun b1=>?_)
 refine Gt (Nh (s:=AR.WU verb opt) (by rw [show(AR.WU verb opt).flatMap Db = [.int .u8 255, .int .u8 verb, .int .u8 opt] from by simp [AR.WU,Db,TQ h0.1 h0.2,TQ h1.1 h1.2]];rfl) Tryz.underlying105 Tryz.underlying9 Tryz.underlying5 rfl (Kn.own .m0)) ?_
 refine Ga rfl (Gn (.t1 4) (Ac ?_))
 refine AZ rfl (.tmp rfl .n) ?_
 intro w1 hS;refine⟨?_,hS.Al⟩;rfl
theorem ML (X:AR)(opt:Int)(w:World):En Tryz.prog 80 #[.agg X.enc.toArray, .int .i64 opt] w fun v w'=>v = .tuple #[.agg (X.DT opt).1.enc.toArray,BT (X.DT opt).2.1, .int .i64 (X.DT opt).2.2]∧B9 w w':=by
 refine Am [] [] Tryz.func80 rfl rfl rfl (St.start w []) ?_
 refine Gs ?_
 refine B0 rfl rfl rfl (fun b1=>?_)
 refine BG rfl aT rfl (fun b2=>?_)
 refine Ga rfl (Ga rfl (Gn (.t3 1 2 4) (Gs (Gm rfl ?_))))
 refine BD rfl af (.c rfl .n) (fun w hS=>GA _ w) ?_
 refine Gm rfl (Gt (AL rfl rfl) (Gt (AL rfl rfl) (Gt (AL rfl rfl) (Ga rfl (Ga rfl (Ga rfl (Gn (.t5 1 2 4 7 8) ?_)))))))
 refine Aq (Ag (Gs (Gt (AY rfl EC .m1 (AS.id AR.fl.len AR.fl.one) rfl) ?_)))
 refine BD rfl Zu (.c rfl .n) (fun w hS=>GX _ w) ?_
 refine Gt (BR rfl) (Ga rfl (Gn (.t6 1 2 4 7 8 16) ?_))
 refine Gc (fun c1=>?_) (fun c1=>?_)
 ·
  refine Gs (Gt (AY rfl EC .m1 (AS.id AR.fl.len AR.fl.one) rfl) ?_)
  refine AU (AK (AS.id AR.fl.len AR.fl.one) rfl rfl rfl Kp rfl .h) ?_
  refine Ga rfl (Ga rfl (Gn (.t3 4 5 6) (Ac (AT (AE ?_)))))
  refine AZ rfl (.cell rfl .m0 (.inl ⟨(by rw [AR.fl.len];exact EC),rfl⟩) (.tmp rfl (.tmp rfl .n))) ?_
  intro w1 hS;refine⟨?_,hS.Al⟩;simp only [AR.DT,c1,↓reduceIte,Bool.false_eq_true];rfl
 have c1p:=kz c1
 refine Gs (Gm rfl (Gt (BR rfl) (Ga rfl (Gn (.t5 1 2 4 7 21) ?_))))
 refine Gc (fun c2=>?_) (fun c2=>?_)
 ·
  refine Gs (Gt (AY rfl EC .m1 (AS.id AR.fl.len AR.fl.one) rfl) ?_)
  refine AU (AK (AS.id AR.fl.len AR.fl.one) rfl rfl rfl Kp rfl .h) ?_
  refine Ga rfl (Ga rfl (Gn (.t3 4 5 6) (Ac (AT (AE ?_)))))
  refine AZ rfl (.cell rfl .m0 (.inl ⟨(by rw [AR.fl.len];exact EC),rfl⟩) (.tmp rfl (.tmp rfl .n))) ?_
  intro w1 hS;refine⟨?_,hS.Al⟩;simp only [AR.DT,c1,c2,↓reduceIte,Bool.false_eq_true];rfl
 have c2p:=kz c2
 have hk:=AR.Oi (opt:=opt) (by simpa using c2)
 have hk1:0≤(AR.place opt).1∧(AR.place opt).1 < 3:=by rcases hk with ⟨_,e⟩ | ⟨_,e⟩<;>rw [e]<;>decide
 have ho:0≤opt∧opt≤255:=by rcases hk with ⟨e,_⟩ | ⟨e,_⟩<;>omega
 refine Gs (Gm rfl (Gt (Aj LD rfl) ?_))
 refine Gt (AN Kz rfl rfl (by omega) (by omega)) ?_
 refine Gt (AG rfl A5 .m1 (AR.l3.comp (AS.ar (n:=3) B1 (by omega))) rfl rfl) ?_
 refine Gt (CN rfl rfl) (Ga rfl (Gn (.t5 1 2 4 7 25) ?_))
 refine Gc (fun c3=>?_) (fun c3=>?_)
 ·
  refine Gs (Gt (AY rfl EC .m1 (AS.id AR.fl.len AR.fl.one) rfl) ?_)
  refine AU (AK (AS.id AR.fl.len AR.fl.one) rfl rfl rfl Kp rfl .h) ?_
  refine Ga rfl (Ga rfl (Gn (.t3 4 5 6) (Ac (AT (AE ?_)))))
  refine AZ rfl (.cell rfl .m0 (.inl ⟨(by rw [AR.fl.len];exact EC),rfl⟩) (.tmp rfl (.tmp rfl .n))) ?_
  intro w1 hS;refine⟨?_,hS.Al⟩;simp only [AR.DT,c1,c2,c3,↓reduceIte,Bool.false_eq_true];rfl
 have c3p:=kz c3
 refine Aa ?_
 refine AB (.t4 1 2 4 7) ?_
 refine AV (AA (Gs (Gm rfl (Gt (Aj LD rfl) ?_))))
 refine Gt (AN Kz rfl rfl (by omega) (by omega)) ?_
 refine AU (AK (AR.l3.comp (AS.ar (n:=3) B1 (by omega))) rfl rfl rfl DD rfl (.t .h)) ?_
 refine Gn (.t3 1 2 4) (Aq ?_)
 refine BE (N:=6) [0,0,2,7,15,31] mix (by kernel_rfl) rfl ?_
 refine Pf 0 rfl (AY rfl EC .m1 (AS.id AR.fl.len AR.fl.one) rfl) (Pf 1 rfl (AD rfl) ?_)
 refine Ab 2 rfl rfl (by kernel_rfl) (Ln (JX (Dl Rk (.c rfl (.c rfl .n)) (fun w hS=>C2 _ _ (by first | assumption | omega) (by first | assumption | omega) w)))) ?_
 refine Af 3 rfl (by kernel_rfl) ?_
 refine AU (AK (AS.id AR.fl.len AR.fl.one) rfl rfl rfl Kp rfl .h) ?_
 refine BN rfl ⟨?_,?_⟩
 · exact(Pk (Pk (Pk Ar)))
 refine Pf 4 rfl (A2 rfl) (Pf 5 rfl (A2 rfl) ?_)
 refine A1 (by kernel_rfl) ?_
 refine AB (.t3 4 5 6) ?_
 refine AA (Ac ?_)
 refine AZ rfl (.cell rfl .m0 (.inl ⟨(by rw [AR.fl.len];exact EC),rfl⟩) (.tmp rfl (.tmp rfl .n))) ?_
 intro w1 hS;refine⟨?_,hS.Al⟩;simp only [AR.DT,c1,c2,c3,↓reduceIte,Bool.false_eq_true];rfl
theorem NC (X:AR)(opt:Int)(w:World):En Tryz.prog 81 #[.agg X.enc.toArray, .int .i64 opt] w fun v w'=>v = .tuple #[.agg (X.Ask opt).1.enc.toArray,BT (X.Ask opt).2.1, .int .i64 (X.Ask opt).2.2]∧B9 w w':=by
 refine Am [] [] Tryz.func81 rfl rfl rfl (St.start w []) ?_
 refine Gs ?_
 refine B0 rfl rfl rfl (fun b1=>?_)
 refine BG rfl aT rfl (fun b2=>?_)
 refine Ga rfl (Ga rfl (Gn (.t3 1 2 4) (Gs (Gm rfl ?_))))
 refine BD rfl af (.c rfl .n) (fun w hS=>GA _ w) ?_
 refine Gm rfl (Gt (AL rfl rfl) (Gt (AL rfl rfl) (Gt (AL rfl rfl) (Ga rfl (Ga rfl (Ga rfl (Gn (.t5 1 2 4 7 9) ?_)))))))
 refine Aq (Ag (Gs (Gt (AY rfl EC .m1 (AS.id AR.fl.len AR.fl.one) rfl) ?_)))
 refine BD rfl Zu (.c rfl .n) (fun w hS=>GX _ w) ?_
 refine Gt (BR rfl) (Ga rfl (Gn (.t6 1 2 4 7 9 16) ?_))
 refine Gc (fun c1=>?_) (fun c1=>?_)
 ·
  refine Gs (Gt (AY rfl EC .m1 (AS.id AR.fl.len AR.fl.one) rfl) ?_)
  refine AU (AK (AS.id AR.fl.len AR.fl.one) rfl rfl rfl Kp rfl .h) ?_
  refine Ga rfl (Ga rfl (Gn (.t3 4 5 6) (Ac (AT (AE ?_)))))
  refine AZ rfl (.cell rfl .m0 (.inl ⟨(by rw [AR.fl.len];exact EC),rfl⟩) (.tmp rfl (.tmp rfl .n))) ?_
  intro w1 hS;refine⟨?_,hS.Al⟩;simp only [AR.Ask,c1,↓reduceIte,Bool.false_eq_true];rfl
 have c1p:=kz c1
 refine Gs (Gm rfl (Gt (BR rfl) (Ga rfl (Gn (.t5 1 2 4 7 21) ?_))))
 refine Gc (fun c2=>?_) (fun c2=>?_)
 ·
  refine Gs (Gt (AY rfl EC .m1 (AS.id AR.fl.len AR.fl.one) rfl) ?_)
  refine AU (AK (AS.id AR.fl.len AR.fl.one) rfl rfl rfl Kp rfl .h) ?_
  refine Ga rfl (Ga rfl (Gn (.t3 4 5 6) (Ac (AT (AE ?_)))))
  refine AZ rfl (.cell rfl .m0 (.inl ⟨(by rw [AR.fl.len];exact EC),rfl⟩) (.tmp rfl (.tmp rfl .n))) ?_
  intro w1 hS;refine⟨?_,hS.Al⟩;simp only [AR.Ask,c1,c2,↓reduceIte,Bool.false_eq_true];rfl
 have c2p:=kz c2
 have hk:=AR.K1 (opt:=opt) (by simpa using c2)
 have hk1:0≤(AR.place opt).1∧(AR.place opt).1 < 3:=by rcases hk with ⟨_,e⟩ | ⟨_,e⟩<;>rw [e]<;>decide
 have ho:0≤opt∧opt≤255:=by rcases hk with ⟨e,_⟩ | ⟨e,_⟩<;>omega
 refine Gs (Gm rfl (Gt (Aj J4 rfl) ?_))
 refine Gt (AN Kz rfl rfl (by omega) (by omega)) ?_
 refine Gt (AG rfl A5 .m1 (AR.l4.comp (AS.ar (n:=3) B1 (by omega))) rfl rfl) ?_
 refine Gt (CN rfl rfl) (Ga rfl (Gn (.t5 1 2 4 7 25) ?_))
 refine Gc (fun c3=>?_) (fun c3=>?_)
 ·
  refine Gs (Gt (AY rfl EC .m1 (AS.id AR.fl.len AR.fl.one) rfl) ?_)
  refine AU (AK (AS.id AR.fl.len AR.fl.one) rfl rfl rfl Kp rfl .h) ?_
  refine Ga rfl (Ga rfl (Gn (.t3 4 5 6) (Ac (AT (AE ?_)))))
  refine AZ rfl (.cell rfl .m0 (.inl ⟨(by rw [AR.fl.len];exact EC),rfl⟩) (.tmp rfl (.tmp rfl .n))) ?_
  intro w1 hS;refine⟨?_,hS.Al⟩;simp only [AR.Ask,c1,c2,c3,↓reduceIte,Bool.false_eq_true];rfl
 have c3p:=kz c3
 refine Aa ?_
 refine AB (.t4 1 2 4 7) ?_
 refine AV (AA (Gs (Gm rfl (Gt (Aj J4 rfl) ?_))))
 refine Gt (AN Kz rfl rfl (by omega) (by omega)) ?_
 refine AU (AK (AR.l4.comp (AS.ar (n:=3) B1 (by omega))) rfl rfl rfl DD rfl (.t .h)) ?_
 refine Gn (.t3 1 2 4) (Aq ?_)
 refine BE (N:=6) [0,0,2,7,15,31] mix (by kernel_rfl) rfl ?_
 refine Pf 0 rfl (AY rfl EC .m1 (AS.id AR.fl.len AR.fl.one) rfl) (Pf 1 rfl (AD rfl) ?_)
 refine Ab 2 rfl rfl (by kernel_rfl) (Ln (JX (Dl Rk (.c rfl (.c rfl .n)) (fun w hS=>C2 _ _ (by first | assumption | omega) (by first | assumption | omega) w)))) ?_
 refine Af 3 rfl (by kernel_rfl) ?_
 refine AU (AK (AS.id AR.fl.len AR.fl.one) rfl rfl rfl Kp rfl .h) ?_
 refine BN rfl ⟨?_,?_⟩
 · exact(Pk (Pk (Pk Ar)))
 refine Pf 4 rfl (A2 rfl) (Pf 5 rfl (A2 rfl) ?_)
 refine A1 (by kernel_rfl) ?_
 refine AB (.t3 4 5 6) ?_
 refine AA (Ac ?_)
 refine AZ rfl (.cell rfl .m0 (.inl ⟨(by rw [AR.fl.len];exact EC),rfl⟩) (.tmp rfl (.tmp rfl .n))) ?_
 intro w1 hS;refine⟨?_,hS.Al⟩;simp only [AR.Ask,c1,c2,c3,↓reduceIte,Bool.false_eq_true];rfl
theorem Q8 (b:Nat)(V:AM)(ls:Vector BK 4)(ev:List Ing.Event)(k:Int)(n m:Nat)(hk:0≤k∧k < 4)(hF:AH.Fit (A7 V ls ev) n m)(hn:n≤500000)(hm:m≤500000):Fa Tryz.prog 61 #[.pointer (some ⟨b,0,none⟩), .pointer (some ⟨b,165+k.toNat * 22,none⟩)] [Ad.box b 101 (AM.enc V),Ad.Da (CL 9 (AM.As V) ls),Ad.own (AM.last V) 56 16 ((ev).flatMap Ing.Event.enc)] (fun w=>(GV 2 Fy w∧2 ∉ Cj [Ad.box b 101 (AM.enc V),Ad.Da (CL 9 (AM.As V) ls),Ad.own (AM.last V) 56 16 ((ev).flatMap Ing.Event.enc)])∧(GV 0 AI.DP w∧0 ∉ Cj [Ad.box b 101 (AM.enc V),Ad.Da (CL 9 (AM.As V) ls),Ad.own (AM.last V) 56 16 ((ev).flatMap Ing.Event.enc)])∧(G3 7 w∧7 ∉ Cj [Ad.box b 101 (AM.enc V),Ad.Da (CL 9 (AM.As V) ls),Ad.own (AM.last V) 56 16 ((ev).flatMap Ing.Event.enc)])∧(G3 8 w∧8 ∉ Cj [Ad.box b 101 (AM.enc V),Ad.Da (CL 9 (AM.As V) ls),Ad.own (AM.last V) 56 16 ((ev).flatMap Ing.Event.enc)])) (fun v B=>∃ V' ls' ev',v = .tuple #[]∧A7 V' ls' ev'=AH.Kj (A7 V ls ev) k∧B = [Ad.box b 101 (AM.enc V'),Ad.Da (CL 9 (AM.As V') ls'),Ad.own (AM.last V') 56 16 ((ev').flatMap Ing.Event.enc)]):=by
 intro w hS0 hH
 obtain⟨⟨gl0,gm0⟩,⟨gl1,gm1⟩,⟨gl2,gm2⟩,⟨gl3,gm3⟩⟩:=hH
 refine Am _ _ Tryz.func61 rfl rfl rfl (hS0) ?_
 refine Aq ?_
 refine FG (k:=k) hk.1 hk.2 (fun sv sl hsv hlv hln=>?_)
 refine AJ (Gm rfl (Gt (BH VQ Vi rfl (.cons A3.l0 rfl rfl rfl (.cons A3.l1 rfl rfl rfl .nil))) (Gt (BV rfl) ?_)))
 refine AU (AK (AS.BB V hk.1 hk.2) rfl rfl rfl TD rfl (.t (.t (.t .h)))) ?_
 refine Gn (.t2 0 1) (CD ?_)
 refine Gt (E9 Tryz.underlying145 DD bS rfl (.cons (AS.arr (n:=2) (i:=0) B1 (by decide) (by decide)) rfl rfl rfl (.cons (AS.arr (n:=2) (i:=1) B1 (by decide) (by decide)) rfl rfl rfl .nil))) ?_
 refine Gm rfl (AQ (AA (Ag ?_)))
 refine Bo (.t4 12 0 1 11) ?_
 refine Bc (.t (.t (.t .h))) ?_
 refine D2 (fun(j:Int) (t:AR) (g:Page.Pg)=>0≤j∧j≤2∧t=(E7 j.toNat).1∧g=(E7 j.toNat).2) (fun(j:Int) (t:AR) (g:Page.Pg)=>(2 - j).toNat) (fun(j:Int) (t:AR) (g:Page.Pg)=> [(12, .int .i64 j)]) (fun(j:Int) (t:AR) (g:Page.Pg)=> [Ad.box b 101 (J5 V k (EV t g))]) (0) (default) (⟨0,false,[],false⟩) ?_ rfl rfl (fun j t g hI1=>?_)
 · exact⟨by omega,by omega,rfl,rfl⟩
 obtain⟨hI11,hI12,hI13,hI14⟩:=hI1
 refine Gs (Gt (BA rfl rfl) (AQ (AA (Aq ?_))))
 refine Gc (fun c1=>?_) (fun c1=>?_)
 ·
  have c1p:=kz c1
  refine Aa ?_
  refine AB (.t4 0 1 11 12) ?_
  refine AA (Aq (Ag (Gs ?_)))
  refine Gt (Kb B1 Tryz.underlying145 DD A5 rfl rfl (by first | omega | exact hk.1 | exact hk.2 | (have h1:=Fg t (D1 j);have h2:=IM (t.DT (D1 j)).1 (D1 j);dsimp only [D1,EV] at *;(try simp only [List.length_nil]);omega)) (by first | omega | exact hk.1 | exact hk.2 | (have h1:=Fg t (D1 j);have h2:=IM (t.DT (D1 j)).1 (D1 j);dsimp only [D1,EV] at *;(try simp only [List.length_nil]);omega)) rfl) ?_
  refine Ga rfl (Gn (.t5 0 1 5 11 12) (Gs (Ga rfl (Ga rfl (Gn (.t6 0 1 5 7 11 12) (CD (Gm rfl ?_)))))))
  refine Gm rfl (Gt (BV rfl) (Gt (Aj LH rfl) (Gt (AY rfl EC .m0 ((AS.BB V hk.1 hk.2).comp A3.l2) rfl) (Gm rfl ?_))))
  refine BD rfl eM (.c rfl (.c rfl .n)) (fun w hS=>ML _ _ w) ?_
  refine Gm rfl (Gt (AL rfl rfl) (Gt (AL rfl rfl) (Gt (AL rfl rfl) (Gt (BV rfl) (Gt (Aj LH rfl) ?_)))))
  refine AU (AK ((AS.BB V hk.1 hk.2).comp A3.l2) rfl rfl rfl Kp rfl .h) ?_
  refine Ga rfl (Gn (.t7 0 1 5 6 7 11 12) (Gs (Gm rfl (Gt (Bu rfl rfl) (Gn (.t8 0 1 5 6 7 11 12 29) ?_)))))
  refine Gc (fun c2=>?_) (fun c2=>?_)
  ·
   have c2p:=kz c2
   refine AJ (Gm rfl (Gm rfl (Gt (BV rfl) (Gt (Aj LH rfl) (Gt (AY rfl EC .m0 ((AS.BB V hk.1 hk.2).comp A3.l2) rfl) (Gm rfl ?_))))))
   refine BD rfl eH (.c rfl (.c rfl .n)) (fun w hS=>NC _ _ w) ?_
   refine Gm rfl (Gt (AL rfl rfl) (Gt (AL rfl rfl) (Gt (AL rfl rfl) (Gt (BV rfl) (Gt (Aj LH rfl) ?_)))))
   refine AU (AK ((AS.BB V hk.1 hk.2).comp A3.l2) rfl rfl rfl Kp rfl .h) ?_
   refine Ga rfl (Gn (.t6 0 1 6 7 11 12) (AJ (Gm rfl (Gm rfl (Gt (BV rfl) (Gt (Aj Dy rfl) (Gt (AY rfl Co .m0 ((AS.BB V hk.1 hk.2).comp A3.l4) rfl) ?_)))))))
   refine Gm rfl (Gm rfl ?_)
   refine Gt (CZ rfl rfl (by first | omega | exact hk.1 | exact hk.2 | (have h1:=Fg t (D1 j);have h2:=IM (t.DT (D1 j)).1 (D1 j);dsimp only [D1,EV] at *;(try simp only [List.length_nil]);omega))) ?_
   refine BD rfl Xu (.c rfl (.c rfl .n)) (fun w hS=>EW _ _ (by simp only [List.length_append];have h1:=Fg t (D1 j);have h2:=IM (t.DT (D1 j)).1 (D1 j);dsimp only [D1,EV] at *;(try simp only [List.length_nil]);omega) w) ?_
   refine Gm rfl (Gt (AL rfl rfl) (Gt (AL rfl rfl) (Gt (BV rfl) (Gt (Aj Dy rfl) ?_))))
   refine AU (AK ((AS.BB V hk.1 hk.2).comp A3.l4) rfl rfl rfl FH rfl .h) ?_
   refine AQ (AB (.t4 0 1 11 12) ?_)
   refine AV (AA ?_)
   refine GK (fun _=> .h) (congrArg (J5 V k) (show _=EV (IW t (D1 j)) (K6 t g (D1 j)) from by rw [EV,K6,show IW t (D1 j)=_ from BF c2,show Mb t (D1 j)=_ from BF c2];rfl)) ?_
   refine AJ ?_
   refine Gt (Ax rfl rfl (IntWalk.i64_in _ (by first | omega | exact hk.1 | exact hk.2 | (have h1:=Fg t (D1 j);have h2:=IM (t.DT (D1 j)).1 (D1 j);dsimp only [D1,EV] at *;(try simp only [List.length_nil]);omega)))) ?_
   refine Gm rfl ?_
   refine AQ (AB (.t4 0 1 11 12) ?_)
   refine B3 (j+1) _ _ ?_ ?_ (.t4 12 0 1 11) (.refl _)
   · exact⟨by omega,by omega,by rw [HP hI11,← hI13,← hI14],by rw [HP hI11,← hI13,← hI14]⟩
   · omega
  have c2p:=kz c2
  refine Aa ?_
  refine AB (.t6 0 1 6 7 11 12) ?_
  refine AA (AJ (Gm rfl (Gm rfl (Gt (BV rfl) (Gt (Aj Dy rfl) (Gt (AY rfl Co .m0 ((AS.BB V hk.1 hk.2).comp A3.l4) rfl) (Gm rfl ?_)))))))
  refine Gm rfl ?_
  refine Gt (CZ rfl rfl (by first | omega | exact hk.1 | exact hk.2 | (have h1:=Fg t (D1 j);have h2:=IM (t.DT (D1 j)).1 (D1 j);dsimp only [D1,EV] at *;(try simp only [List.length_nil]);omega))) ?_
  refine BD rfl Xu (.c rfl (.c rfl .n)) (fun w hS=>EW _ _ (by simp only [List.length_append];have h1:=Fg t (D1 j);have h2:=IM (t.DT (D1 j)).1 (D1 j);dsimp only [D1,EV] at *;(try simp only [List.length_nil]);omega) w) ?_
  refine Gm rfl (Gt (AL rfl rfl) (Gt (AL rfl rfl) (Gt (BV rfl) (Gt (Aj Dy rfl) ?_))))
  refine AU (AK ((AS.BB V hk.1 hk.2).comp A3.l4) rfl rfl rfl FH rfl .h) ?_
  refine AQ (AB (.t4 0 1 11 12) ?_)
  refine AV (AA ?_)
  refine GK (fun _=> .h) (congrArg (J5 V k) (show _=EV (IW t (D1 j)) (K6 t g (D1 j)) from by rw [EV,K6,show IW t (D1 j)=_ from AX c2,show Mb t (D1 j)=_ from AX c2];rfl)) ?_
  refine AJ ?_
  refine Gt (Ax rfl rfl (IntWalk.i64_in _ (by first | omega | exact hk.1 | exact hk.2 | (have h1:=Fg t (D1 j);have h2:=IM (t.DT (D1 j)).1 (D1 j);dsimp only [D1,EV] at *;(try simp only [List.length_nil]);omega)))) ?_
  refine Gm rfl ?_
  refine AQ (AB (.t4 0 1 11 12) ?_)
  refine B3 (j+1) _ _ ?_ ?_ (.t4 12 0 1 11) (.refl _)
  · exact⟨by omega,by omega,by rw [HP hI11,← hI13,← hI14],by rw [HP hI11,← hI13,← hI14]⟩
  · omega
 have c1p:=kz c1
 obtain rfl:j=2:=by omega
 refine Be (AW (AW (Ai ?_)))
 refine AB (.t2 0 1) ?_
 refine AA (Aq ?_)
 refine FF A8 9 1 ?_
 refine FF A8 9 1 ?_
 refine FF A8 9 1 ?_
 refine EN (.c (.t (.t .h)) (.c (.t .h) (.c .h (.c .h (.c (.t (.t (.t .h))) .n))))) ?_
 refine HH hk.1 hk.2 (by rfl) (by rfl) (by rfl) ?_
 refine AJ (Gm rfl (Gm rfl ?_))
 refine Ah rfl TY (.c rfl (.c rfl (.c rfl .n))) (.c .h (.c .h (.c (.t (.t (.t .h))) .n))) (EU _ (AM.BB V k (EV t g)) (ls.put k ⟨[],[],[]⟩) ev k _ hk (by rw [Vector.CG hk.1 hk.2];exact Nat.zero_le _)) (fun v4 B hv=>?_)
 obtain⟨y5,y6,y7,rfl,y8,rfl⟩:=hv
 refine Gn (.t1 0) (AJ (Gm rfl ?_))
 refine BJ rfl SG (.c rfl .n) (.c .h (.c .h (.c .h .n))) (D5 _ y5 y6 y7 (n+1) m (by rw [y8,(show A7 (AM.BB V k (EV t g)) (ls.put k ⟨[],[],[]⟩) ev=AH.set (A7 V ls ev) k (Cq (EV t g) Yy) from Iq V ls ev hk.1 hk.2 _ _)];exact(hF.comes hk.1 hk.2 t g).tell hk.1 hk.2 (show AH.Hx.length≤_ by decide)) (by omega) (by omega)) (fun w hS=>⟨gl0.pull gm0 hS (.c .h (.c .h (.c .h .n))),gl1.pull gm1 hS (.c .h (.c .h (.c .h .n))),gl2.pull gm2 hS (.c .h (.c .h (.c .h .n))),gl3.pull gm3 hS (.c .h (.c .h (.c .h .n)))⟩) (fun v9 B hv=>?_)
 obtain⟨y10,y11,y12,rfl,y13,rfl⟩:=hv
 refine AQ ?_
 refine Bn rfl .n ?_
 intro w1 hS
 have hS:=(hS.perm (Ay.perm (.c .h (.c .h (.c .h .n))))).A4
 refine⟨_,⟨y10,y11,y12,rfl,?ga1,rfl⟩,hS⟩
 case ga1=>rw [y13,y8,(show A7 (AM.BB V k (EV t g)) (ls.put k ⟨[],[],[]⟩) ev=AH.set (A7 V ls ev) k (Cq (EV t g) Yy) from Iq V ls ev hk.1 hk.2 _ _),hI13,hI14];unfold AH.Kj;rw [← OJ];rfl
theorem E5 {α:Type}{ea:α→List Value}{o:Nat}{g:α→Int}{st:α→Int→α}(b V:Nat)(Y:α)(on:Bool)(opt yes no:Int)(h0:0≤yes∧yes≤255)(h1:0≤no∧no≤255)(h2:0≤opt∧opt≤255)(ln:AS ea Az o 1 g st):Jk Tryz.prog 75 #[.pointer (some ⟨b,o,none⟩), .bool on, .int .i64 opt, .int .i64 yes, .int .i64 no] [Ad.box b V (ea Y)] (fun v B=>v=BT (AR.I5 (g Y) on opt yes no)∧B = [Ad.box b V (ea (st Y (AR.Y2 on)))]):=by
 intro w hS0
 refine Am _ _ Tryz.func75 rfl rfl rfl (hS0) ?_
 refine Gs (Ga rfl (Gn (.t5 0 1 2 3 4) (Gs (Gm rfl (Gt (BV rfl) (Gt (AG rfl A5 .m0 ln rfl rfl) (Ga rfl ?_)))))))
 refine Gn (.t6 0 1 2 3 4 11) (Gs (Gm rfl (Gt (BV rfl) ?_)))
 refine AU (AK ln rfl rfl rfl DD rfl .h) ?_
 refine Gn (.t6 0 1 2 3 4 11) (CD (Gm rfl (AQ (AA ?_))))
 refine Gc (fun c1=>?_) (fun c1=>?_)
 ·
  have c1p:=kz c1
  refine AJ (Gm rfl (Gt (BV rfl) ?_))
  refine AU (AK ln rfl rfl rfl DD rfl .h) ?_
  refine Gn (.t5 1 2 3 4 11) (Aq (Ag (Gs (Gm rfl (Gm rfl (Bb 22 rfl rfl (fun q=>AD rfl) (Bb 22 rfl rfl (fun q=>Ak (BX rfl q) rfl) ?_)))))))
  refine Gt (BI rfl rfl (fun h=>h)) (Ga rfl (Gn (.t6 1 2 3 4 11 20) ?_))
  refine Gc (fun c2=>?_) (fun c2=>?_)
  ·
   have c2p:=kz c2
   refine Gs (Gm rfl (Gm rfl ?_))
   refine BD rfl Rk (.c rfl (.c rfl .n)) (fun w hS=>C2 _ _ (by first | assumption | omega) (by first | assumption | omega) w) ?_
   refine Ga rfl (Gn (.t1 10) (Ac (AT (AE ?_))))
   refine AZ rfl (.tmp rfl .n) ?_
   intro w1 hS
   have hS:=(hS.perm (Ay.perm (.c .h .n))).A4
   exact⟨_,⟨by clear hS;simp_all [AR.I5,V6],by simp only [AR.Y2,ln.Kd,c1,c2,↓reduceIte,Bool.false_eq_true]⟩,hS⟩
  have c2p:=kz c2
  refine Gs (Gm rfl (Gt (BR rfl) (Gm rfl (Bb 32 rfl rfl (fun q=>AD rfl) (Bb 32 rfl rfl (fun q=>Ak (BX rfl q) rfl) (Gt (BI rfl rfl (fun h=>h)) (Ga rfl ?_)))))))
  refine Gn (.t3 2 4 29) ?_
  refine Gc (fun c3=>?_) (fun c3=>?_)
  ·
   have c3p:=kz c3
   refine Gs (Gm rfl (Gm rfl ?_))
   refine BD rfl Rk (.c rfl (.c rfl .n)) (fun w hS=>C2 _ _ (by first | assumption | omega) (by first | assumption | omega) w) ?_
   refine Ga rfl (Gn (.t1 10) (Ac (AT (AE ?_))))
   refine AZ rfl (.tmp rfl .n) ?_
   intro w1 hS
   have hS:=(hS.perm (Ay.perm (.c .h .n))).A4
   exact⟨_,⟨by clear hS;simp_all [AR.I5,V6],by simp only [AR.Y2,ln.Kd,c1,c2,c3,↓reduceIte,Bool.false_eq_true]⟩,hS⟩
  have c3p:=kz c3
  refine Aa ?_
  refine AB (.nil _) ?_
  refine AV (AA (Gs (Ga rfl (AQ (AA (Ac ?_))))))
  refine AZ rfl (.tmp rfl .n) ?_
  intro w1 hS
  have hS:=(hS.perm (Ay.perm (.c .h .n))).A4
  exact⟨_,⟨by clear hS;simp_all [AR.I5,V6],by simp only [AR.Y2,ln.Kd,c1,c2,c3,↓reduceIte,Bool.false_eq_true]⟩,hS⟩
 have c1p:=kz c1
 refine Aa ?_
 refine AB (.t5 1 2 3 4 11) ?_
 refine AA (Aq (Ag (Gs (Gm rfl (Gm rfl (Bb 22 rfl rfl (fun q=>AD rfl) (Bb 22 rfl rfl (fun q=>Ak (BX rfl q) rfl) ?_)))))))
 refine Gt (BI rfl rfl (fun h=>h)) (Ga rfl (Gn (.t6 1 2 3 4 11 20) ?_))
 refine Gc (fun c4=>?_) (fun c4=>?_)
 ·
  have c4p:=kz c4
  refine Gs (Gm rfl (Gm rfl ?_))
  refine BD rfl Rk (.c rfl (.c rfl .n)) (fun w hS=>C2 _ _ (by first | assumption | omega) (by first | assumption | omega) w) ?_
  refine Ga rfl (Gn (.t1 10) (Ac (AT (AE ?_))))
  refine AZ rfl (.tmp rfl .n) ?_
  intro w1 hS
  have hS:=(hS.perm (Ay.perm (.c .h .n))).A4
  exact⟨_,⟨by clear hS;simp_all [AR.I5,V6],by simp only [AR.Y2,ln.Kd,c1,c4,↓reduceIte,Bool.false_eq_true]⟩,hS⟩
 have c4p:=kz c4
 refine Gs (Gm rfl (Gt (BR rfl) (Gm rfl (Bb 32 rfl rfl (fun q=>AD rfl) (Bb 32 rfl rfl (fun q=>Ak (BX rfl q) rfl) (Gt (BI rfl rfl (fun h=>h)) (Ga rfl ?_)))))))
 refine Gn (.t3 2 4 29) ?_
 refine Gc (fun c5=>?_) (fun c5=>?_)
 ·
  have c5p:=kz c5
  refine Gs (Gm rfl (Gm rfl ?_))
  refine BD rfl Rk (.c rfl (.c rfl .n)) (fun w hS=>C2 _ _ (by first | assumption | omega) (by first | assumption | omega) w) ?_
  refine Ga rfl (Gn (.t1 10) (Ac (AT (AE ?_))))
  refine AZ rfl (.tmp rfl .n) ?_
  intro w1 hS
  have hS:=(hS.perm (Ay.perm (.c .h .n))).A4
  exact⟨_,⟨by clear hS;simp_all [AR.I5,V6],by simp only [AR.Y2,ln.Kd,c1,c4,c5,↓reduceIte,Bool.false_eq_true]⟩,hS⟩
 have c5p:=kz c5
 refine Aa ?_
 refine AB (.nil _) ?_
 refine AV (AA (Gs (Ga rfl (AQ (AA (Ac ?_))))))
 refine AZ rfl (.tmp rfl .n) ?_
 intro w1 hS
 have hS:=(hS.perm (Ay.perm (.c .h .n))).A4
 exact⟨_,⟨by clear hS;simp_all [AR.I5,V6],by simp only [AR.Y2,ln.Kd,c1,c4,c5,↓reduceIte,Bool.false_eq_true]⟩,hS⟩
theorem Jm (b:Nat)(X:AR)(verb opt:Int)(h0:0≤opt∧opt≤255):Jk Tryz.prog 56 #[.pointer (some ⟨b,0,none⟩), .int .i64 verb, .int .i64 opt] [Ad.box b 69 X.enc] (fun v B=>v=BT (X.B6 verb opt).2∧B = [Ad.box b 69 (X.B6 verb opt).1.enc]):=by
 intro w hS0
 refine Am _ _ Tryz.func56 rfl rfl rfl (hS0) ?_
 refine Gs (Ga rfl (Gn (.t3 0 1 2) (Gs (Gm rfl ?_))))
 refine BD rfl af (.c rfl .n) (fun w hS=>GA _ w) ?_
 refine Gm rfl (Gt (AL rfl rfl) (Gt (AL rfl rfl) (Gt (AL rfl rfl) (Ga rfl (Ga rfl (Ga rfl (Gn (.t6 0 1 2 7 8 9) ?_)))))))
 refine CD (Gm rfl (Gn (.t6 0 2 7 8 9 16) (Ag (Gs (Gt (Ak rfl rfl) (Ga rfl (Gn (.t7 0 2 7 8 9 16 17) ?_)))))))
 refine Gc (fun c1=>?_) (fun c1=>?_)
 ·
  have c1p:=kz c1
  refine CD (Gm rfl (Gt (BR rfl) (Gn (.t4 0 2 7 20) ?_)))
  refine Gc (fun c2=>?_) (fun c2=>?_)
  ·
   have c2p:=kz c2
   refine Gs (Gm rfl ?_)
   refine BD rfl Rk (.c rfl (.c rfl .n)) (fun w hS=>C2 _ _ (by first | assumption | omega) (by first | assumption | omega) w) ?_
   refine Ga rfl (Gn (.t1 6) (Ac (AE (AT (AE ?_)))))
   refine AZ rfl (.tmp rfl .n) ?_
   intro w1 hS
   have hS:=(hS.perm (Ay.perm (.c .h .n))).A4
   exact⟨_,⟨by simp only [AR.B6,c1,c2,↓reduceIte,Bool.false_eq_true]<;>rfl,by simp only [AR.B6,c1,c2,↓reduceIte,Bool.false_eq_true]<;>rfl⟩,hS⟩
  have c2p:=kz c2
  have hk:=AR.Oi (opt:=opt) (by simpa using c2)
  have hk1:0≤(AR.place opt).1∧(AR.place opt).1 < 3:=by rcases hk with ⟨_,e⟩ | ⟨_,e⟩<;>rw [e]<;>decide
  refine Aa ?_
  refine AB (.t3 0 2 7) ?_
  refine AA (Gs (Gm rfl (Gm rfl (Gt (BV rfl) (Gt (Aj LD rfl) ?_)))))
  refine Gt (AN Kz rfl rfl (by omega) (by omega)) ?_
  refine Gm rfl ?_
  refine Ah rfl Yk (.c rfl (.c rfl (.c rfl (.c rfl (.c rfl .n))))) (.c .h .n) (E5 _ _ _ _ _ _ _ (by first | assumption | omega) (by first | assumption | omega) (by first | assumption | omega) (AR.l3.comp (AS.ar (n:=3) B1 (by omega)))) (fun v1 B hv=>?_)
  obtain⟨rfl,rfl⟩:=hv
  refine Ga rfl (Gn (.t1 6) (Ac (AT (AE ?_))))
  refine AZ rfl (.tmp rfl .n) ?_
  intro w1 hS
  have hS:=(hS.perm (Ay.perm (.c .h .n))).A4
  exact⟨_,⟨by simp only [AR.B6,c1,c2,↓reduceIte,Bool.false_eq_true]<;>rfl,by simp only [AR.B6,c1,c2,↓reduceIte,Bool.false_eq_true]<;>rfl⟩,hS⟩
 have c1p:=kz c1
 refine Gs (Gt (Ak rfl rfl) (Ga rfl (Gn (.t7 0 2 7 8 9 16 30) ?_)))
 refine Gc (fun c3=>?_) (fun c3=>?_)
 ·
  have c3p:=kz c3
  refine Gs (Gm rfl (Gn (.t4 0 2 7 32) ?_))
  refine Gc (fun c4=>?_) (fun c4=>?_)
  ·
   have c4p:=kz c4
   have hk:=AR.Oi (opt:=opt) (by simpa using c4)
   have hk1:0≤(AR.place opt).1∧(AR.place opt).1 < 3:=by rcases hk with ⟨_,e⟩ | ⟨_,e⟩<;>rw [e]<;>decide
   refine Gs (Gm rfl (Gm rfl (Gt (BV rfl) (Gt (Aj LD rfl) ?_))))
   refine Gt (AN Kz rfl rfl (by omega) (by omega)) ?_
   refine Gm rfl ?_
   refine Ah rfl Yk (.c rfl (.c rfl (.c rfl (.c rfl (.c rfl .n))))) (.c .h .n) (E5 _ _ _ _ _ _ _ (by first | assumption | omega) (by first | assumption | omega) (by first | assumption | omega) (AR.l3.comp (AS.ar (n:=3) B1 (by omega)))) (fun v2 B hv=>?_)
   obtain⟨rfl,rfl⟩:=hv
   refine Ga rfl (Gn (.t1 6) (Ac (AT (AE ?_))))
   refine AZ rfl (.tmp rfl .n) ?_
   intro w1 hS
   have hS:=(hS.perm (Ay.perm (.c .h .n))).A4
   exact⟨_,⟨by simp only [AR.B6,c1,c3,c4,↓reduceIte,Bool.false_eq_true]<;>rfl,by simp only [AR.B6,c1,c3,c4,↓reduceIte,Bool.false_eq_true]<;>rfl⟩,hS⟩
  refine Aa ?_
  refine AB (.nil _) ?_
  refine AV (AA (Gs (Ga rfl (AQ (AA (Ac ?_))))))
  refine AZ rfl (.tmp rfl .n) ?_
  intro w1 hS
  have hS:=(hS.perm (Ay.perm (.c .h .n))).A4
  exact⟨_,⟨by simp only [AR.B6,c1,c3,c4,↓reduceIte,Bool.false_eq_true]<;>rfl,by simp only [AR.B6,c1,c3,c4,↓reduceIte,Bool.false_eq_true]<;>rfl⟩,hS⟩
 have c3p:=kz c3
 refine Gs (Gt (Ak rfl rfl) (Ga rfl (Gn (.t6 0 2 7 9 16 40) ?_)))
 refine Gc (fun c5=>?_) (fun c5=>?_)
 ·
  have c5p:=kz c5
  refine CD (Gm rfl (Gt (BR rfl) (Gn (.t4 0 2 7 43) ?_)))
  refine Gc (fun c6=>?_) (fun c6=>?_)
  ·
   have c6p:=kz c6
   refine Gs (Gm rfl ?_)
   refine BD rfl Rk (.c rfl (.c rfl .n)) (fun w hS=>C2 _ _ (by first | assumption | omega) (by first | assumption | omega) w) ?_
   refine Ga rfl (Gn (.t1 6) (Ac (AE (AT (AE ?_)))))
   refine AZ rfl (.tmp rfl .n) ?_
   intro w1 hS
   have hS:=(hS.perm (Ay.perm (.c .h .n))).A4
   exact⟨_,⟨by simp only [AR.B6,c1,c3,c5,c6,↓reduceIte,Bool.false_eq_true]<;>rfl,by simp only [AR.B6,c1,c3,c5,c6,↓reduceIte,Bool.false_eq_true]<;>rfl⟩,hS⟩
  have c6p:=kz c6
  have hk:=AR.K1 (opt:=opt) (by simpa using c6)
  have hk1:0≤(AR.place opt).1∧(AR.place opt).1 < 3:=by rcases hk with ⟨_,e⟩ | ⟨_,e⟩<;>rw [e]<;>decide
  refine Aa ?_
  refine AB (.t3 0 2 7) ?_
  refine AA (Gs (Gm rfl (Gm rfl (Gt (BV rfl) (Gt (Aj J4 rfl) ?_)))))
  refine Gt (AN Kz rfl rfl (by omega) (by omega)) ?_
  refine Gm rfl ?_
  refine Ah rfl Yk (.c rfl (.c rfl (.c rfl (.c rfl (.c rfl .n))))) (.c .h .n) (E5 _ _ _ _ _ _ _ (by first | assumption | omega) (by first | assumption | omega) (by first | assumption | omega) (AR.l4.comp (AS.ar (n:=3) B1 (by omega)))) (fun v3 B hv=>?_)
  obtain⟨rfl,rfl⟩:=hv
  refine Ga rfl (Gn (.t1 6) (Ac (AT (AE ?_))))
  refine AZ rfl (.tmp rfl .n) ?_
  intro w1 hS
  have hS:=(hS.perm (Ay.perm (.c .h .n))).A4
  exact⟨_,⟨by simp only [AR.B6,c1,c3,c5,c6,↓reduceIte,Bool.false_eq_true]<;>rfl,by simp only [AR.B6,c1,c3,c5,c6,↓reduceIte,Bool.false_eq_true]<;>rfl⟩,hS⟩
 have c5p:=kz c5
 refine Gs (Gt (Ak rfl rfl) (Ga rfl (Gn (.t5 0 2 7 9 53) ?_)))
 refine Gc (fun c7=>?_) (fun c7=>?_)
 ·
  have c7p:=kz c7
  refine Gs (Gm rfl (Gn (.t4 0 2 7 55) ?_))
  refine Gc (fun c8=>?_) (fun c8=>?_)
  ·
   have c8p:=kz c8
   have hk:=AR.K1 (opt:=opt) (by simpa using c8)
   have hk1:0≤(AR.place opt).1∧(AR.place opt).1 < 3:=by rcases hk with ⟨_,e⟩ | ⟨_,e⟩<;>rw [e]<;>decide
   refine Gs (Gm rfl (Gm rfl (Gt (BV rfl) (Gt (Aj J4 rfl) ?_))))
   refine Gt (AN Kz rfl rfl (by omega) (by omega)) ?_
   refine Gm rfl ?_
   refine Ah rfl Yk (.c rfl (.c rfl (.c rfl (.c rfl (.c rfl .n))))) (.c .h .n) (E5 _ _ _ _ _ _ _ (by first | assumption | omega) (by first | assumption | omega) (by first | assumption | omega) (AR.l4.comp (AS.ar (n:=3) B1 (by omega)))) (fun v4 B hv=>?_)
   obtain⟨rfl,rfl⟩:=hv
   refine Ga rfl (Gn (.t1 6) (Ac (AT (AE ?_))))
   refine AZ rfl (.tmp rfl .n) ?_
   intro w1 hS
   have hS:=(hS.perm (Ay.perm (.c .h .n))).A4
   exact⟨_,⟨by simp only [AR.B6,c1,c3,c5,c7,c8,↓reduceIte,Bool.false_eq_true]<;>rfl,by simp only [AR.B6,c1,c3,c5,c7,c8,↓reduceIte,Bool.false_eq_true]<;>rfl⟩,hS⟩
  refine Aa ?_
  refine AB (.nil _) ?_
  refine AV (AA (Gs (Ga rfl (AQ (AA (Ac ?_))))))
  refine AZ rfl (.tmp rfl .n) ?_
  intro w1 hS
  have hS:=(hS.perm (Ay.perm (.c .h .n))).A4
  exact⟨_,⟨by simp only [AR.B6,c1,c3,c5,c7,c8,↓reduceIte,Bool.false_eq_true]<;>rfl,by simp only [AR.B6,c1,c3,c5,c7,c8,↓reduceIte,Bool.false_eq_true]<;>rfl⟩,hS⟩
 refine Aa ?_
 refine AB (.nil _) ?_
 refine AV (AA (Gs (Ga rfl (AQ (AA (Ac ?_))))))
 refine AZ rfl (.tmp rfl .n) ?_
 intro w1 hS
 have hS:=(hS.perm (Ay.perm (.c .h .n))).A4
 exact⟨_,⟨by simp only [AR.B6,c1,c3,c5,c7,↓reduceIte,Bool.false_eq_true]<;>rfl,by simp only [AR.B6,c1,c3,c5,c7,↓reduceIte,Bool.false_eq_true]<;>rfl⟩,hS⟩
theorem HG (b:Nat)(X:AR)(c:UInt8)(h0:X.sub.length≤16):Jk Tryz.prog 57 #[.pointer (some ⟨b,0,none⟩), .int .u8 (c.toNat:Int)] [Ad.box b 69 X.enc] (fun v B=>v = .tuple #[]∧B = [Ad.box b 69 (X.collect c).enc]):=by
 intro w hS0
 refine Am _ _ Tryz.func57 rfl rfl rfl (hS0) ?_
 refine Gs (Gm rfl (Gt (BV rfl) (Gt (Aj HD rfl) (Gt (AG rfl CM .m0 AR.l2 rfl rfl) (Gt (BL rfl Tryz.underlying9 rfl) (Gt (BA rfl rfl) (Gn (.t3 0 1 9) ?_)))))))
 refine Gc (fun c1=>?_) (fun c1=>?_)
 ·
  have c1p:=kz c1
  refine BE (N:=11) [0,1,3,7,0,16,48,127,255,511,1023] mix (by kernel_rfl) rfl ?_
  refine Pf 0 rfl (AD rfl) (Pf 1 rfl (BV rfl) (Pf 2 rfl (Aj HD rfl) (Pf 3 rfl (AG rfl CM .m0 AR.l2 rfl rfl) (Pf 4 rfl (AD rfl) ?_))))
  refine Af 5 rfl (by kernel_rfl) ?_
  refine Tk rfl Tryz.underlying105 WB aA rfl (by decide) (by decide) rfl rfl rfl (fun b1=>?_)
  refine Bf rfl ⟨?_,?_⟩
  · exact(Pk (Po rfl (AG rfl CM .m1 AR.l2 rfl rfl) rfl rfl (Po rfl (Aj HD rfl) rfl rfl (Po rfl (BV rfl) rfl rfl (Po rfl (AD rfl) rfl rfl Ar)))))
  refine Pf 6 rfl (Nh (s:= [c]) rfl Tryz.underlying105 Tryz.underlying9 Tryz.underlying5 rfl (Kn.own .m0)) ?_
  refine Pf 7 rfl (CZ rfl rfl (by simp only [List.length_cons,List.length_nil];omega)) ?_
  refine Pf 8 rfl (BV rfl) (Pf 9 rfl (Aj HD rfl) ?_)
  refine Af 10 rfl (by kernel_rfl) ?_
  refine AU (AK AR.l2 rfl rfl rfl Ez rfl (.t .h)) ?_
  refine BN rfl ⟨?_,?_⟩
  · exact(Pk (Pk (Pk (Pk (Pk (Pk (Pk (Pk (Pk Ar)))))))))
  refine A1 (by kernel_rfl) ?_
  refine Bn rfl .n ?_
  intro w1 hS
  have hS:=(hS.perm (Ay.perm (.c (.t .h) .n))).A4
  exact⟨_,⟨rfl,by simp only [AR.collect,c1,↓reduceIte,Bool.false_eq_true]⟩,hS⟩
 refine Aa ?_
 refine Bn rfl .n ?_
 intro w1 hS
 have hS:=(hS.perm (Ay.perm (.c .h .n))).A4
 exact⟨_,⟨rfl,by simp only [AR.collect,c1,↓reduceIte,Bool.false_eq_true]⟩,hS⟩
theorem Kr (b:Nat)(X:AR):Jk Tryz.prog 58 #[.pointer (some ⟨b,0,none⟩)] [Ad.box b 69 X.enc] (fun v B=>v = .tuple #[]∧B = [Ad.box b 69 X.measure.enc]):=by
 intro w hS0
 refine Am _ _ Tryz.func58 rfl rfl rfl (hS0) ?_
 refine Gs (Gm rfl (Gt (BV rfl) (Gt (Aj HD rfl) (Gt (AG rfl CM .m0 AR.l2 rfl rfl) (Gt (BL rfl Tryz.underlying9 rfl) (Gt (Ak rfl rfl) (Gm rfl ?_)))))))
 refine Bb 8 rfl rfl (fun q=>AD rfl) (Bb 8 rfl rfl (fun q=>BV (BX rfl q)) (Bb 8 rfl rfl (fun q=>Aj HD (BX rfl q)) (Bb 8 rfl rfl (fun q=>AG (BX rfl q) CM .m0 AR.l2 rfl rfl) ?_)))
 refine Bb 8 rfl rfl (fun q=>by have q1:=q;(try simp at q1);exact Bq Tryz.underlying9 (BX rfl q) rfl (by decide) (by omega)) ?_
 refine Bb 8 rfl rfl (fun q=>Ak (BX rfl q) rfl) (Gt (BI rfl rfl (fun h=>h)) (Gm rfl (Bb 16 rfl rfl (fun q=>AD rfl) (Bb 16 rfl rfl (fun q=>BV (BX rfl q)) (Bb 16 rfl rfl (fun q=>Aj J4 (BX rfl q)) ?_)))))
 refine Bb 16 rfl rfl (fun q=>AN Kz (BX rfl q) rfl (by decide) (by decide)) ?_
 refine Bb 16 rfl rfl (fun q=>AG (BX rfl q) A5 .m0 (AR.l4.comp (AS.arr (n:=3) B1 (by decide) (by decide))) rfl rfl) ?_
 refine Bb 16 rfl rfl (fun q=>Ak (BX rfl q) rfl) (Gt (BI rfl rfl (fun h=>h)) (Gn (.t2 0 23) ?_))
 refine Gc (fun c1=>?_) (fun c1=>?_)
 ·
  have c1p:=kz c1
  refine BE (N:=19) [0,0,2,6,14,30,62,126,0,256,768,1792,3840,7936,16382,32766,65535,131071,262143] mix (by kernel_rfl) rfl ?_
  refine Pf 0 rfl (AD rfl) (Pf 1 rfl (AD rfl) (Pf 2 rfl (BV rfl) (Pf 3 rfl (Aj HD rfl) (Pf 4 rfl (AG rfl CM .m0 AR.l2 rfl rfl) ?_))))
  refine Pf 5 rfl (Bq Tryz.underlying9 rfl rfl (by decide) (by omega)) ?_
  refine Pf 6 rfl (Sw Tryz.underlying3 Tryz.underlying5 rfl) (Pf 7 rfl (ZE rfl rfl) (Pf 8 rfl (AD rfl) (Pf 9 rfl (BV rfl) (Pf 10 rfl (Aj HD rfl) (Pf 11 rfl (AG rfl CM .m0 AR.l2 rfl rfl) ?_)))))
  refine Pf 12 rfl (Bq Tryz.underlying9 rfl rfl (by decide) (by omega)) ?_
  refine Pf 13 rfl (Sw Tryz.underlying3 Tryz.underlying5 rfl) (Pf 14 rfl (ah rfl rfl) (Pf 15 rfl (MG rfl rfl) (Pf 16 rfl (BV rfl) (Pf 17 rfl (Aj Qr rfl) ?_))))
  refine Af 18 rfl (by kernel_rfl) ?_
  refine AU (AK AR.l5 rfl rfl rfl DD rfl .h) ?_
  refine BN rfl ⟨?_,?_⟩
  · exact(Pk (Pk (Pk (Pk (Pk (Pk (Pk (Pk (Pk (Pk (Pk (Pk (Pk (Pk (Pk (Pk (Pk (Pk Ar))))))))))))))))))
  refine A1 (by kernel_rfl) ?_
  refine Bn rfl .n ?_
  intro w1 hS
  have hS:=(hS.perm (Ay.perm (.c .h .n))).A4
  exact⟨_,⟨rfl,by rw [show X.measure=_ from BF c1];rfl⟩,hS⟩
 refine Aa ?_
 refine Bn rfl .n ?_
 intro w1 hS
 have hS:=(hS.perm (Ay.perm (.c .h .n))).A4
 exact⟨_,⟨rfl,by rw [show X.measure=_ from AX c1]⟩,hS⟩
theorem Mi (X:AR)(u:Au)(hu:u.length≤140737488351232)(w:World):En Tryz.prog 29 #[.agg X.enc.toArray,BT u] w fun v w'=>v = .tuple #[.agg (X.Dr u).1.enc.toArray,BT (X.Dr u).2.1,BT (X.Dr u).2.2.1, .int .i64 (X.Dr u).2.2.2]∧B9 w w':=by
 refine Am [] [] Tryz.func29 rfl rfl rfl (St.start w []) ?_
 refine Gs ?_
 refine B0 rfl rfl rfl (fun b1=>?_)
 refine BG rfl aT rfl (fun b2=>?_)
 refine Ga rfl (Ga rfl (Ga rfl (Gn (.t3 1 2 4) (CD (Gt (AY rfl EC .m1 (AS.id AR.fl.len AR.fl.one) rfl) ?_)))))
 refine BD rfl Zu (.c rfl .n) (fun w hS=>GX _ w) ?_
 refine Gt (BR rfl) (Gn (.t4 1 2 4 15) ?_)
 refine Gc (fun c1=>?_) (fun c1=>?_)
 ·
  refine Gs (Gt (AY rfl EC .m1 (AS.id AR.fl.len AR.fl.one) rfl) ?_)
  refine AU (AK (AS.id AR.fl.len AR.fl.one) rfl rfl rfl Kp rfl .h) ?_
  refine Ga rfl (Ga rfl (Ga rfl (Gn (.t4 4 5 6 7) (Ac (AE ?_)))))
  refine AZ rfl (.cell rfl .m0 (.inl ⟨(by rw [AR.fl.len];exact EC),rfl⟩) (.tmp rfl (.tmp rfl (.tmp rfl .n)))) ?_
  intro w1 hS;refine⟨?_,hS.Al⟩;rw [show X.Dr u=_ from BF c1];rfl
 have c1p:=kz c1
 have hg:X.Bj=true:=by simpa using c1
 refine Aa ?_
 refine AB (.t3 1 2 4) ?_
 refine AA (Gs ?_)
 refine BG rfl Um rfl (fun b3=>?_)
 refine Dg Db 5 1 ?_
 refine BG rfl Um rfl (fun b4=>?_)
 refine Dg Db 5 1 ?_
 refine AQ (AA (CD (Gm rfl ?_)))
 refine O6 rfl Tryz.underlying9 Tryz.underlying105 Tryz.underlying5 rfl (fun h1 h1l=>?_)
 refine Gt (Av rfl Tryz.underlying105 rfl) (Gm rfl (Gn (.t7 2 4 8 9 18 19 20) (Ag ?_)))
 refine Bo (.t7 20 2 4 8 9 18 19) ?_
 refine Bc (.t (.t (.t (.t (.t (.t .h)))))) ?_
 refine Bc (.t (.t (.t (.t (.t .h))))) ?_
 refine Bc (.t (.t (.t (.t (.t .h))))) ?_
 refine Bc (.t (.t (.t (.t (.t .h))))) ?_
 refine Bc (.t (.t (.t (.t (.t .h))))) ?_
 refine Rj (fun(k:Int) (t:AR) (x:Au) (y:Au) (p:Option Addr) (h:Hd) (q:Option Addr) (g:Hd)=>AR.KJ X u k t x y∧(p=none∨p=some ⟨b3,0,none⟩)∧h.Z∧h.len=x.length∧(q=none∨q=some ⟨b4,0,none⟩)∧g.Z∧g.len=y.length) (fun(k:Int) (t:AR) (x:Au) (y:Au) (p:Option Addr) (h:Hd) (q:Option Addr) (g:Hd)=>((u.length:Int) - k).toNat) (fun(k:Int) (t:AR) (x:Au) (y:Au) (p:Option Addr) (h:Hd) (q:Option Addr) (g:Hd)=> [(20, .int .i64 k)]) (fun(k:Int) (t:AR) (x:Au) (y:Au) (p:Option Addr) (h:Hd) (q:Option Addr) (g:Hd)=> [Ad.own g 5 1 (y.flatMap Db),Ad.box b4 107 (Df.enc ⟨q,g⟩),Ad.own h 5 1 (x.flatMap Db),Ad.box b3 107 (Df.enc ⟨p,h⟩),Ad.box b1 69 (AR.enc t)]) (0) (X) ([]) ([]) (none) (⟨none,0,0⟩) (none) (⟨none,0,0⟩) ?_ rfl rfl (fun k t x y p h q g hI1=>?_)
 · exact⟨AR.KJ.start (AR.YB hg), .inl rfl,Hd.UU,rfl, .inl rfl,Hd.UU,rfl⟩
 obtain⟨hI11,hp,hz,hl,hq,hzg,hlg⟩:=hI1;have hk0:=hI11.k0;have hk1:=hI11.k1;have hsub:=hI11.sub;have hxl:=hI11.xl;have hyl:=hI11.yl;have hc8:=(u.getD k.toNat 0).toNat_lt;have hyb:=hI11.yb
 refine Gs (Gt (BA rfl rfl) (AQ (AA (Aq ?_))))
 refine Gc (fun c2=>?_) (fun c2=>?_)
 ·
  have c2p:=kz c2
  refine Aa ?_
  refine AB (.t7 2 4 8 9 18 19 20) ?_
  refine AA (Aq (Ag (Gs ?_)))
  refine Gt (Bs XC (by decide) (Kn.own .m5) rfl rfl (by omega) (by omega)) ?_
  refine Gt (Xj rfl bh (Kn.own .m5) (by omega)) ?_
  refine Ga rfl (Gn (.t8 2 4 8 9 11 18 19 20) (Gs (Gm rfl (Gt (Sw Tryz.underlying3 Tryz.underlying5 rfl) (Ga rfl (Gn (.t9 2 4 8 9 11 12 18 19 20) (Gs ?_)))))))
  refine Gt (Aj F0 rfl) (Gt (AG rfl A5 .m4 AR.l0 rfl rfl) (Gn (.t10 2 4 8 9 11 12 18 19 20 27) (Ag (Gs (Gt (Ak rfl rfl) (Ga rfl (Gn (.t11 2 4 8 9 11 12 18 19 20 27 28) ?_)))))))
  refine Gc (fun c3=>?_) (fun c3=>?_)
  ·
   have c3p:=kz c3
   refine Gs (Gm rfl (Gt (Ak rfl rfl) (Gn (.t9 2 4 8 9 11 18 19 20 31) ?_)))
   refine Gc (fun c4=>?_) (fun c4=>?_)
   ·
    have c4p:=kz c4
    refine AJ (Gt (Aj F0 rfl) ?_)
    refine AU (AK AR.l0 rfl rfl rfl DD rfl (.t (.t (.t (.t .h))))) ?_
    refine AQ (AB (.t7 2 4 8 9 18 19 20) ?_)
    refine AV (AV (AA (AJ ?_)))
    refine Gt (Ax rfl rfl (IntWalk.i64_in _ (by omega))) ?_
    refine Gm rfl ?_
    refine AQ (AB (.t7 2 4 8 9 18 19 20) ?_)
    refine CW _ _ _ _ _ _ _ _ ?_ ?_ (.t7 20 2 4 8 9 18 19) (.refl _)
    · exact⟨hI11.next (by omega) (by simp only [AR.step,c1,c2,c3,c4,↓reduceIte,Bool.false_eq_true]) (by simp only [AR.step,c1,c2,c3,c4,List.append_nil,↓reduceIte,Bool.false_eq_true]) (by simp only [AR.step,c1,c2,c3,c4,List.append_nil,↓reduceIte,Bool.false_eq_true]),by assumption,by assumption,by assumption,by assumption,by assumption,by assumption⟩
    · omega
   have c4p:=kz c4
   refine AJ (Gm rfl ?_)
   refine Ah rfl Yt (.c rfl (.c rfl .n)) (.c (.t (.t (.t .h))) (.c (.t (.t .h)) .n)) (Cl _ _ _ _ (by assumption) (by assumption) (by assumption) _ (by omega)) (fun v2 B hv=>?_)
   obtain⟨y3,y4,rfl,y5,y6,y7,rfl⟩:=hv
   refine AQ (AB (.t7 2 4 8 9 18 19 20) ?_)
   refine AV (AV (AA (AJ ?_)))
   refine Gt (Ax rfl rfl (IntWalk.i64_in _ (by omega))) ?_
   refine Gm rfl ?_
   refine AQ (AB (.t7 2 4 8 9 18 19 20) ?_)
   refine CJ (.c (.t (.t .h)) (.c (.t (.t .h)) (.c (.t .h) (.c .h (.c .h (.c .h (.c .h .n))))))) ?_
   refine Cf ?_
   refine CW _ _ _ _ _ _ _ _ ?_ ?_ (.t7 20 2 4 8 9 18 19) (.refl _)
   · exact⟨hI11.next (by omega) (by simp only [AR.step,c1,c2,c3,c4,↓reduceIte,Bool.false_eq_true]) (by simp only [AR.step,c1,c2,c3,c4,List.append_nil,↓reduceIte,Bool.false_eq_true]) (by simp only [AR.step,c1,c2,c3,c4,List.append_nil,↓reduceIte,Bool.false_eq_true]),by assumption,by assumption,by assumption,by assumption,by assumption,by assumption⟩
   · omega
  have c3p:=kz c3
  refine Gs (Gt (Ak rfl rfl) (Ga rfl (Gn (.t11 2 4 8 9 11 12 18 19 20 27 35) ?_)))
  refine Gc (fun c5=>?_) (fun c5=>?_)
  ·
   have c5p:=kz c5
   refine Gs (Gt (Aj F0 rfl) ?_)
   refine AU (AK AR.l0 rfl rfl rfl DD rfl (.t (.t (.t (.t .h))))) ?_
   refine Gn (.t9 2 4 8 9 11 12 18 19 20) (Ag (Gs (Gm rfl (Gt (Ak rfl rfl) (Ga rfl (Gn (.t10 2 4 8 9 11 12 18 19 20 38) ?_))))))
   refine Gc (fun c6=>?_) (fun c6=>?_)
   ·
    have c6p:=kz c6
    refine AJ (Gm rfl ?_)
    refine Ah rfl Yt (.c rfl (.c rfl .n)) (.c (.t (.t (.t .h))) (.c (.t (.t .h)) .n)) (Cl _ _ _ _ (by assumption) (by assumption) (by assumption) _ (by omega)) (fun v8 B hv=>?_)
    obtain⟨y9,y10,rfl,y11,y12,y13,rfl⟩:=hv
    refine AQ (AB (.t7 2 4 8 9 18 19 20) ?_)
    refine AV (AV (AV (AA (AJ ?_))))
    refine Gt (Ax rfl rfl (IntWalk.i64_in _ (by omega))) ?_
    refine Gm rfl ?_
    refine AQ (AB (.t7 2 4 8 9 18 19 20) ?_)
    refine CJ (.c (.t (.t .h)) (.c (.t (.t .h)) (.c (.t .h) (.c .h (.c .h (.c .h (.c .h .n))))))) ?_
    refine Cf ?_
    refine CW _ _ _ _ _ _ _ _ ?_ ?_ (.t7 20 2 4 8 9 18 19) (.refl _)
    · exact⟨hI11.next (by omega) (by simp only [AR.step,c1,c2,c3,c5,c6,↓reduceIte,Bool.false_eq_true]) (by simp only [AR.step,c1,c2,c3,c5,c6,List.append_nil,↓reduceIte,Bool.false_eq_true]) (by simp only [AR.step,c1,c2,c3,c5,c6,List.append_nil,↓reduceIte,Bool.false_eq_true]),by assumption,by assumption,by assumption,by assumption,by assumption,by assumption⟩
    · omega
   have c6p:=kz c6
   refine Gs (Gm rfl (Gt (Ak rfl rfl) (Ga rfl (Gn (.t9 2 4 8 9 12 18 19 20 43) ?_))))
   refine Gc (fun c7=>?_) (fun c7=>?_)
   ·
    have c7p:=kz c7
    refine AJ (Gt (Aj F0 rfl) ?_)
    refine AU (AK AR.l0 rfl rfl rfl DD rfl (.t (.t (.t (.t .h))))) ?_
    refine AQ (AB (.t7 2 4 8 9 18 19 20) ?_)
    refine AV (AV (AV (AA (AJ ?_))))
    refine Gt (Ax rfl rfl (IntWalk.i64_in _ (by omega))) ?_
    refine Gm rfl ?_
    refine AQ (AB (.t7 2 4 8 9 18 19 20) ?_)
    refine CW _ _ _ _ _ _ _ _ ?_ ?_ (.t7 20 2 4 8 9 18 19) (.refl _)
    · exact⟨hI11.next (by omega) (by simp only [AR.step,c1,c2,c3,c5,c6,c7,↓reduceIte,Bool.false_eq_true]) (by simp only [AR.step,c1,c2,c3,c5,c6,c7,List.append_nil,↓reduceIte,Bool.false_eq_true]) (by simp only [AR.step,c1,c2,c3,c5,c6,c7,List.append_nil,↓reduceIte,Bool.false_eq_true]),by assumption,by assumption,by assumption,by assumption,by assumption,by assumption⟩
    · omega
   have c7p:=kz c7
   refine Gs (Gm rfl (Gt (CK rfl rfl) (Ga rfl (Gn (.t9 2 4 8 9 12 18 19 20 47) ?_))))
   refine Gc (fun c8=>?_) (fun c8=>?_)
   ·
    have c8p:=kz c8
    refine AJ (Gm rfl (Gt (Aj F0 rfl) ?_))
    refine AU (AK AR.l0 rfl rfl rfl DD rfl (.t (.t (.t (.t .h))))) ?_
    refine Gt (Aj LS rfl) ?_
    refine AU (AK AR.l1 rfl rfl rfl DD rfl (.t (.t (.t (.t .h))))) ?_
    refine AQ (AB (.t7 2 4 8 9 18 19 20) ?_)
    refine AV (AV (AV (AA (AJ ?_))))
    refine Gt (Ax rfl rfl (IntWalk.i64_in _ (by omega))) ?_
    refine Gm rfl ?_
    refine AQ (AB (.t7 2 4 8 9 18 19 20) ?_)
    refine CW _ _ _ _ _ _ _ _ ?_ ?_ (.t7 20 2 4 8 9 18 19) (.refl _)
    · exact⟨hI11.next (by omega) (by simp only [AR.step,c1,c2,c3,c5,c6,c7,c8,↓reduceIte,Bool.false_eq_true]) (by simp only [AR.step,c1,c2,c3,c5,c6,c7,c8,List.append_nil,↓reduceIte,Bool.false_eq_true]) (by simp only [AR.step,c1,c2,c3,c5,c6,c7,c8,List.append_nil,↓reduceIte,Bool.false_eq_true]),by assumption,by assumption,by assumption,by assumption,by assumption,by assumption⟩
    · omega
   have c8p:=kz c8
   refine Aa ?_
   refine AB (.t7 2 4 8 9 18 19 20) ?_
   refine AV (AV (AV (AA (AJ ?_))))
   refine Gt (Ax rfl rfl (IntWalk.i64_in _ (by omega))) ?_
   refine Gm rfl ?_
   refine AQ (AB (.t7 2 4 8 9 18 19 20) ?_)
   refine CW _ _ _ _ _ _ _ _ ?_ ?_ (.t7 20 2 4 8 9 18 19) (.refl _)
   · exact⟨hI11.next (by omega) (by simp only [AR.step,c1,c2,c3,c5,c6,c7,c8,↓reduceIte,Bool.false_eq_true]) (by simp only [AR.step,c1,c2,c3,c5,c6,c7,c8,List.append_nil,↓reduceIte,Bool.false_eq_true]) (by simp only [AR.step,c1,c2,c3,c5,c6,c7,c8,List.append_nil,↓reduceIte,Bool.false_eq_true]),by assumption,by assumption,by assumption,by assumption,by assumption,by assumption⟩
   · omega
  have c5p:=kz c5
  refine Gs (Gt (Ak rfl rfl) (Ga rfl (Gn (.t11 2 4 8 9 11 12 18 19 20 27 53) ?_)))
  refine Gc (fun c9=>?_) (fun c9=>?_)
  ·
   have c9p:=kz c9
   refine Gs (Gt (Aj LS rfl) (Gt (AG rfl A5 .m4 AR.l1 rfl rfl) (Gm rfl ?_)))
   refine Ah rfl dx (.c rfl (.c rfl (.c rfl .n))) (.c (.t (.t (.t (.t .h)))) .n) (Jm _ _ _ _ (by first | assumption | omega)) (fun v14 B hv=>?_)
   obtain⟨rfl,rfl⟩:=hv
   refine Ah rfl PY (.c rfl (.c rfl .n)) (.c (.t (.t .h)) (.c (.t .h) .n)) (BO _ _ _ _ (by assumption) (by assumption) (by assumption) _ (by have:=AR.IY t t.verb ((u.getD k.toNat 0).toNat:Int);omega)) (fun v15 B hv=>?_)
   obtain⟨y16,y17,rfl,y18,y19,y20,rfl⟩:=hv
   refine Gn (.t7 2 4 8 9 18 19 20) (AJ (Gt (Aj F0 rfl) ?_))
   refine AU (AK AR.l0 rfl rfl rfl DD rfl (.t (.t .h))) ?_
   refine Gt (Aj LS rfl) ?_
   refine AU (AK AR.l1 rfl rfl rfl DD rfl (.t (.t .h))) ?_
   refine AQ (AB (.t7 2 4 8 9 18 19 20) ?_)
   refine AV (AV (AA (AJ ?_)))
   refine Gt (Ax rfl rfl (IntWalk.i64_in _ (by omega))) ?_
   refine Gm rfl ?_
   refine AQ (AB (.t7 2 4 8 9 18 19 20) ?_)
   refine CJ (.c (.t .h) (.c .h (.c (.t .h) (.c (.t .h) (.c .h (.c .h (.c .h .n))))))) ?_
   refine Cf ?_
   refine CW _ _ _ _ _ _ _ _ ?_ ?_ (.t7 20 2 4 8 9 18 19) (.refl _)
   · exact⟨hI11.next (by omega) (by simp only [AR.step,c1,c2,c3,c5,c9,↓reduceIte,Bool.false_eq_true]) (by simp only [AR.step,c1,c2,c3,c5,c9,List.append_nil,↓reduceIte,Bool.false_eq_true]) (by simp only [AR.step,c1,c2,c3,c5,c9,List.append_nil,↓reduceIte,Bool.false_eq_true]),by assumption,by assumption,by assumption,by assumption,by assumption,by assumption⟩
   · omega
  have c9p:=kz c9
  refine Gs (Gt (Ak rfl rfl) (Ga rfl (Gn (.t11 2 4 8 9 11 12 18 19 20 27 62) ?_)))
  refine Gc (fun c10=>?_) (fun c10=>?_)
  ·
   have c10p:=kz c10
   refine Gs (Gm rfl (Gt (Ak rfl rfl) (Gn (.t9 2 4 8 9 11 18 19 20 65) ?_)))
   refine Gc (fun c11=>?_) (fun c11=>?_)
   ·
    have c11p:=kz c11
    refine AJ (Gt (Aj F0 rfl) ?_)
    refine AU (AK AR.l0 rfl rfl rfl DD rfl (.t (.t (.t (.t .h))))) ?_
    refine AQ (AB (.t7 2 4 8 9 18 19 20) ?_)
    refine AV (AV (AA (AJ ?_)))
    refine Gt (Ax rfl rfl (IntWalk.i64_in _ (by omega))) ?_
    refine Gm rfl ?_
    refine AQ (AB (.t7 2 4 8 9 18 19 20) ?_)
    refine CW _ _ _ _ _ _ _ _ ?_ ?_ (.t7 20 2 4 8 9 18 19) (.refl _)
    · exact⟨hI11.next (by omega) (by simp only [AR.step,c1,c2,c3,c5,c9,c10,c11,↓reduceIte,Bool.false_eq_true]) (by simp only [AR.step,c1,c2,c3,c5,c9,c10,c11,List.append_nil,↓reduceIte,Bool.false_eq_true]) (by simp only [AR.step,c1,c2,c3,c5,c9,c10,c11,List.append_nil,↓reduceIte,Bool.false_eq_true]),by assumption,by assumption,by assumption,by assumption,by assumption,by assumption⟩
    · omega
   have c11p:=kz c11
   refine AJ (Gm rfl ?_)
   refine Ah rfl cr (.c rfl (.c rfl .n)) (.c (.t (.t (.t (.t .h)))) .n) (HG _ _ _ (by first | assumption | omega)) (fun v21 B hv=>?_)
   obtain⟨rfl,rfl⟩:=hv
   refine AQ (AB (.t7 2 4 8 9 18 19 20) ?_)
   refine AV (AV (AA (AJ ?_)))
   refine Gt (Ax rfl rfl (IntWalk.i64_in _ (by omega))) ?_
   refine Gm rfl ?_
   refine AQ (AB (.t7 2 4 8 9 18 19 20) ?_)
   refine CJ (.c (.t .h) (.c (.t .h) (.c (.t .h) (.c (.t .h) (.c .h (.c .h (.c .h .n))))))) ?_
   refine Cf ?_
   refine CW _ _ _ _ _ _ _ _ ?_ ?_ (.t7 20 2 4 8 9 18 19) (.refl _)
   · exact⟨hI11.next (by omega) (by simp only [AR.step,c1,c2,c3,c5,c9,c10,c11,↓reduceIte,Bool.false_eq_true]) (by simp only [AR.step,c1,c2,c3,c5,c9,c10,c11,List.append_nil,↓reduceIte,Bool.false_eq_true]) (by simp only [AR.step,c1,c2,c3,c5,c9,c10,c11,List.append_nil,↓reduceIte,Bool.false_eq_true]),by assumption,by assumption,by assumption,by assumption,by assumption,by assumption⟩
   · omega
  have c10p:=kz c10
  refine Gs (Gt (Ak rfl rfl) (Ga rfl (Gn (.t10 2 4 8 9 11 12 18 19 20 69) ?_)))
  refine Gc (fun c12=>?_) (fun c12=>?_)
  ·
   have c12p:=kz c12
   refine Gs (Gm rfl (Gn (.t10 2 4 8 9 11 12 18 19 20 71) (Ag (Gs (Gt (Ak rfl rfl) (Ga rfl (Gn (.t10 2 4 8 9 11 12 18 19 20 77) ?_)))))))
   refine Gc (fun c13=>?_) (fun c13=>?_)
   ·
    have c13p:=kz c13
    refine Gs (Gt (Aj F0 rfl) ?_)
    refine AU (AK AR.l0 rfl rfl rfl DD rfl (.t (.t (.t (.t .h))))) ?_
    refine Gn (.t8 2 4 8 9 11 18 19 20) (AJ (Gm rfl ?_))
    refine Ah rfl cr (.c rfl (.c rfl .n)) (.c (.t (.t (.t (.t .h)))) .n) (HG _ _ _ (by first | assumption | omega)) (fun v22 B hv=>?_)
    obtain⟨rfl,rfl⟩:=hv
    refine AQ (AB (.t7 2 4 8 9 18 19 20) ?_)
    refine AV (AV (AV (AA (AJ ?_))))
    refine Gt (Ax rfl rfl (IntWalk.i64_in _ (by omega))) ?_
    refine Gm rfl ?_
    refine AQ (AB (.t7 2 4 8 9 18 19 20) ?_)
    refine CJ (.c (.t .h) (.c (.t .h) (.c (.t .h) (.c (.t .h) (.c .h (.c .h (.c .h .n))))))) ?_
    refine Cf ?_
    refine CW _ _ _ _ _ _ _ _ ?_ ?_ (.t7 20 2 4 8 9 18 19) (.refl _)
    · exact⟨hI11.next (by omega) (by simp only [AR.step,c1,c2,c3,c5,c9,c10,c12,c13,↓reduceIte,Bool.false_eq_true]) (by simp only [AR.step,c1,c2,c3,c5,c9,c10,c12,c13,List.append_nil,↓reduceIte,Bool.false_eq_true]) (by simp only [AR.step,c1,c2,c3,c5,c9,c10,c12,c13,List.append_nil,↓reduceIte,Bool.false_eq_true]),by assumption,by assumption,by assumption,by assumption,by assumption,by assumption⟩
    · omega
   have c13p:=kz c13
   refine CD (Gm rfl (Gt (Ak rfl rfl) (Gn (.t8 2 4 8 9 18 19 20 73) ?_)))
   refine Gc (fun c14=>?_) (fun c14=>?_)
   ·
    have c14p:=kz c14
    refine AJ ?_
    refine Ah rfl dS (.c rfl .n) (.c (.t (.t (.t (.t .h)))) .n) (Kr _ _) (fun v23 B hv=>?_)
    obtain⟨rfl,rfl⟩:=hv
    refine Gn (.t7 2 4 8 9 18 19 20) (AJ (Gt (Aj F0 rfl) ?_))
    refine AU (AK AR.l0 rfl rfl rfl DD rfl .h) ?_
    refine Gt (Aj HD rfl) ?_
    refine AU (AK AR.l2 rfl rfl rfl Ez rfl .h) ?_
    refine AQ (AB (.t7 2 4 8 9 18 19 20) ?_)
    refine AV (AV (AV (AA (AJ ?_))))
    refine Gt (Ax rfl rfl (IntWalk.i64_in _ (by omega))) ?_
    refine Gm rfl ?_
    refine AQ (AB (.t7 2 4 8 9 18 19 20) ?_)
    refine CJ (.c (.t .h) (.c (.t .h) (.c (.t .h) (.c (.t .h) (.c .h (.c .h (.c .h .n))))))) ?_
    refine Cf ?_
    refine CW _ _ _ _ _ _ _ _ ?_ ?_ (.t7 20 2 4 8 9 18 19) (.refl _)
    · exact⟨hI11.next (by omega) (by simp only [AR.step,c1,c2,c3,c5,c9,c10,c12,c13,c14,↓reduceIte,Bool.false_eq_true]) (by simp only [AR.step,c1,c2,c3,c5,c9,c10,c12,c13,c14,List.append_nil,↓reduceIte,Bool.false_eq_true]) (by simp only [AR.step,c1,c2,c3,c5,c9,c10,c12,c13,c14,List.append_nil,↓reduceIte,Bool.false_eq_true]),by assumption,by assumption,by assumption,by assumption,by assumption,by assumption⟩
    · omega
   have c14p:=kz c14
   refine Aa ?_
   refine AB (.t7 2 4 8 9 18 19 20) ?_
   refine AA (AJ (Gt (Aj F0 rfl) ?_))
   refine AU (AK AR.l0 rfl rfl rfl DD rfl (.t (.t (.t (.t .h))))) ?_
   refine Gt (Aj HD rfl) ?_
   refine AU (AK AR.l2 rfl rfl rfl Ez rfl (.t (.t (.t (.t .h))))) ?_
   refine AQ (AB (.t7 2 4 8 9 18 19 20) ?_)
   refine AV (AV (AV (AA (AJ ?_))))
   refine Gt (Ax rfl rfl (IntWalk.i64_in _ (by omega))) ?_
   refine Gm rfl ?_
   refine AQ (AB (.t7 2 4 8 9 18 19 20) ?_)
   refine CW _ _ _ _ _ _ _ _ ?_ ?_ (.t7 20 2 4 8 9 18 19) (.refl _)
   · exact⟨hI11.next (by omega) (by simp only [AR.step,c1,c2,c3,c5,c9,c10,c12,c13,c14,↓reduceIte,Bool.false_eq_true]) (by simp only [AR.step,c1,c2,c3,c5,c9,c10,c12,c13,c14,List.append_nil,↓reduceIte,Bool.false_eq_true]) (by simp only [AR.step,c1,c2,c3,c5,c9,c10,c12,c13,c14,List.append_nil,↓reduceIte,Bool.false_eq_true]),by assumption,by assumption,by assumption,by assumption,by assumption,by assumption⟩
   · omega
  have c12p:=kz c12
  refine Aa ?_
  refine AB (.t7 2 4 8 9 18 19 20) ?_
  refine AV (AV (AA (AJ ?_)))
  refine Gt (Ax rfl rfl (IntWalk.i64_in _ (by omega))) ?_
  refine Gm rfl ?_
  refine AQ (AB (.t7 2 4 8 9 18 19 20) ?_)
  refine CW _ _ _ _ _ _ _ _ ?_ ?_ (.t7 20 2 4 8 9 18 19) (.refl _)
  · exact⟨hI11.next (by omega) (by simp only [AR.step,c1,c2,c3,c5,c9,c10,c12,↓reduceIte,Bool.false_eq_true]) (by simp only [AR.step,c1,c2,c3,c5,c9,c10,c12,List.append_nil,↓reduceIte,Bool.false_eq_true]) (by simp only [AR.step,c1,c2,c3,c5,c9,c10,c12,List.append_nil,↓reduceIte,Bool.false_eq_true]),by assumption,by assumption,by assumption,by assumption,by assumption,by assumption⟩
  · omega
 have c2p:=kz c2
 refine Be (AW (AW (Ai ?_)))
 refine AB (.t4 2 4 8 9) ?_
 refine AA (Aq ?_)
 refine BE (N:=7) [0,0,2,7,15,31,63] mix (by kernel_rfl) rfl ?_
 refine Pf 0 rfl (AY rfl EC .m4 (AS.id AR.fl.len AR.fl.one) rfl) ?_
 refine Af 1 rfl (by kernel_rfl) ?_
 refine Ah rfl Yu (.c rfl .n) (.c (.t (.t (.t .h))) (.c (.t (.t .h)) .n)) (Cw _ _ _ _ (by assumption) (by assumption) (by omega)) (fun v24 B hv=>?_)
 obtain⟨rfl,rfl⟩:=hv
 refine Bf rfl ⟨?_,?_⟩
 · exact(Po rfl (AY rfl EC .m3 (AS.id AR.fl.len AR.fl.one) rfl) rfl rfl Ar)
 refine Af 2 rfl (by kernel_rfl) ?_
 refine Ah rfl Yu (.c rfl .n) (.c (.t (.t .h)) (.c (.t .h) .n)) (Cw _ _ _ _ (by assumption) (by assumption) (by omega)) (fun v25 B hv=>?_)
 obtain⟨rfl,rfl⟩:=hv
 refine Bf rfl ⟨?_,?_⟩
 · exact(Po rfl (AY rfl EC .m2 (AS.id AR.fl.len AR.fl.one) rfl) rfl rfl Ar)
 refine Af 3 rfl (by kernel_rfl) ?_
 refine AU (AK (AS.id AR.fl.len AR.fl.one) rfl rfl rfl Kp rfl (.t (.t (.t (.t .h))))) ?_
 refine BN rfl ⟨?_,?_⟩
 · exact(Pk Ar)
 refine Pf 4 rfl (A2 rfl) (Pf 5 rfl (A2 rfl) (Pf 6 rfl (A2 rfl) ?_))
 refine A1 (by kernel_rfl) ?_
 refine AB (.t4 4 5 6 7) ?_
 refine AA (Ac ?_)
 refine AZ rfl (.cell rfl .m4 (.inl ⟨(by rw [AR.fl.len];exact EC),rfl⟩) (.tmp rfl (.tmp rfl (.tmp rfl .n)))) ?_
 intro w1 hS;refine⟨?_,hS.Al⟩;rw [show X.Dr u=_ from AX c1,hI11.done (by omega)];rfl
theorem G5 (b:UInt8)(w:World):En Tryz.prog 70 #[.int .u8 (b.toNat:Int)] w fun v w'=>v = .bool (Bi.F4 b)∧B9 w w':=by
 refine Am [] [] Tryz.func70 rfl rfl rfl (St.start w []) ?_
 refine Gs (Ga rfl (Gn (.t1 0) (Gs (Gm rfl (Gt (CK rfl rfl) (Gm rfl (Bb 5 rfl rfl (fun q=>AD rfl) ?_)))))))
 refine Bb 5 rfl rfl (fun q=>BA (BX rfl q) rfl) (Gt (BI rfl rfl (fun h=>h)) (Ga rfl (Gn (.t1 2) (Ac ?_))))
 refine AZ rfl (.tmp rfl .n) ?_
 intro w1 hS;refine⟨?_,hS.Al⟩;rfl
end Go.Proofs.YtoidpggbbfncpaaGreatDoor
