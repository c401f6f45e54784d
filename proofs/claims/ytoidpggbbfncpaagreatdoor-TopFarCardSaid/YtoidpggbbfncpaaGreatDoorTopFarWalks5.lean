/- What the functions that the law TopFar reaches compute: walks, part 5. No condition. -/
import Derived.Test.YtoidpggbbfncpaaGreatDoorCards
import Derived.Test.YtoidpggbbfncpaaGreatDoorTie
import Derived.Deep.DeepHandedRow
import Derived.Test.YtoidpggbbfncpaaGreatDoorRows
import Derived.Test.YtoidpggbbfncpaaGreatDoorTopFarEc3
import Derived.Test.YtoidpggbbfncpaaGreatDoorTopFarRa1
import Derived.Test.YtoidpggbbfncpaaGreatDoorTopFarRb1
import Derived.Test.YtoidpggbbfncpaaGreatDoorTopFarRc1
import Derived.Test.YtoidpggbbfncpaaGreatDoorTopFarWalks
import Derived.Test.YtoidpggbbfncpaaGreatDoorTopFarWalks2
import Derived.Test.YtoidpggbbfncpaaGreatDoorTopFarWalks3
import Derived.Test.YtoidpggbbfncpaaGreatDoorTopFarWalks4
set_option linter.unusedSimpArgs false
set_option linter.unusedVariables false
set_option maxRecDepth 100000
set_option maxHeartbeats 1000000
namespace Go.Proofs.YtoidpggbbfncpaaGreatDoor
open Go Go.Ing Go.RowKit Go.ChangeShapes Go.WideShapes Go.ChangeAt
theorem MY (X:AH)(d:Int)(hw:X.DL):FU Tryz.prog 78 #[.agg X.enc.toArray, .int .i64 d] [] (fun w=>(GV 0 AH.DJ w∧0 ∉ Cg [])) (fun v B=>∃ h:Hd,v = .tuple #[.agg ((AE.CW X d).1.enc).toArray,h.val, .int .i64 (AE.CW X d).2.2]∧h.len=(AE.CW X d).2.1.length∧B = [Ab.own h 56 16 ((AE.CW X d).2.1.flatMap Ing.Event.enc)]):=by
 intro w hS0 hH
 obtain⟨gl0,gm0⟩:=hH
 have hm:=Cx d
 refine Ak _ _ Tryz.func78 rfl rfl rfl (hS0) ?_
 refine Gs ?_
 refine B6 rfl rfl rfl (fun b1=>?_)
 refine BD rfl LU rfl (fun b2=>?_)
 refine Ga rfl (Ga rfl (Gn (.t3 1 2 4) (CG (Gt (AZ rfl BW .m1 (AU.id AH.fl.len AH.fl.one) rfl) ?_))))
 refine BA rfl aP (.c rfl .n) (fun w hS=>HV _ w) ?_
 refine Gt (BT rfl) (Gn (.t4 1 2 4 16) ?_)
 refine Gc (fun c1=>?_) (fun c1=>?_)
 ·
  refine Gs (Gt (AZ rfl BW .m1 (AU.id AH.fl.len AH.fl.one) rfl) ?_)
  refine AT (AK (AU.id AH.fl.len AH.fl.one) rfl rfl rfl Dz rfl .h) ?_
  refine Ga rfl (Ga rfl (Gn (.t3 4 5 6) (Ac (AD ?_))))
  refine AY rfl (.cell rfl .m0 (.inl ⟨(by rw [AH.fl.len];exact BW),rfl⟩) (.tmp rfl (.tmp rfl .n))) ?_
  intro w1 hS
  have hS:=hS.Cs 56 16
  have hS:=(hS.perm (Ax.perm (.c .h .n))).A1
  have hq:AE.CW X d=_:=BB c1
  refine⟨_,⟨⟨none,0,0⟩,?hv,?hl,?hB⟩,hS⟩
  case hv=>rw [hq];rfl
  case hl=>rw [hq];rfl
  case hB=>rw [hq];rfl
 have c1p:=kz c1
 refine Aa ?_
 refine AB (.t3 1 2 4) ?_
 refine AA (Gs (Ga rfl (AQ (AA (CG (Gm rfl (AQ ?_)))))))
 refine AA (Ae ?_)
 refine Bn (.t5 7 18 1 2 4) ?_
 refine E7 Ing.Event.enc 56 16 ?_
 refine Ba (.t (.t .h)) ?_
 refine Ba (.t .h) ?_
 refine Dl (fun(k:Int) (s:AH × List Ing.Event) (h:Hd)=>0≤k∧k≤6∧s=AE.DW X d k.toNat∧s.1.Bh=true∧s.1.DL∧(s.2.length:Int)≤13 * k∧h.len=s.2.length) (fun(k:Int) (s:AH × List Ing.Event) (h:Hd)=>(6 - k).toNat) (fun(k:Int) (s:AH × List Ing.Event) (h:Hd)=> [(7,h.val),(18, .int .i64 k)]) (fun(k:Int) (s:AH × List Ing.Event) (h:Hd)=> [Ab.own h 56 16 (s.2.flatMap Ing.Event.enc),Ab.box b1 35 (AH.enc s.1)]) (0) ((X,[])) (_) ?_ rfl rfl (fun k s h hI1=>?_)
 · exact⟨by omega,by omega,rfl,by simpa using c1,hw,by simp,rfl⟩
 obtain⟨hI11,hI12,hI13,hI14,hI15,hI16,hI17⟩:=hI1
 refine Gs (Gt (A7 rfl rfl) (AQ (AA (Ao ?_))))
 refine Gc (fun c2=>?_) (fun c2=>?_)
 ·
  have c2p:=kz c2
  have hbe:=AE.HI hI14 hI11 (show k < 6 by omega)
  have hfo:=hbe.B1
  refine Aa ?_
  refine AB (.t5 1 2 4 7 18) ?_
  refine AA (Ao (Ae (Gs (Gm rfl (Ga rfl (Gn (.t6 1 2 4 7 8 18) (Gs ?_)))))))
  refine Gm rfl (Gt (Ai Bo rfl) ?_)
  refine Gt (AR C8 rfl rfl (by first | omega | (dsimp only;omega) | (have:=Cx (d.tmod 3+3+k);omega)) (by first | omega | (dsimp only;omega) | (have:=Cx (d.tmod 3+3+k);omega))) ?_
  refine Gt (AZ rfl Fi .m1 (AH.l2.comp (AU.arr (n:=6) Aj.fl (by first | omega | (dsimp only;omega) | (have:=Cx (d.tmod 3+3+k);omega)) (by first | omega | (dsimp only;omega) | (have:=Cx (d.tmod 3+3+k);omega)))) rfl) ?_
  refine BD rfl Lu rfl (fun b3=>?_)
  refine AT (AK (AU.id Aj.fl.len Aj.fl.one) rfl rfl rfl KX rfl .h) ?_
  refine Gn (.t7 1 2 4 7 8 9 18) (CG (Gt (Ai IP rfl) (Gt (AG rfl Dn .m0 Aj.l1 rfl rfl) (Gt (BT rfl) (Gm rfl (Bg 28 rfl rfl (fun q=>Ai GB rfl) (Bg 28 rfl rfl (fun q=>AG (cF rfl q) A2 .m0 Aj.l5 rfl rfl) ?_)))))))
  refine Bg 28 rfl rfl (fun q=>Af (cF rfl q) rfl) ?_
  refine Gt (BS rfl rfl (fun h=>by rw [h];rfl)) ?_
  refine Gn (.t8 1 2 4 7 8 9 18 32) ?_
  refine Gc (fun c3=>?_) (fun c3=>?_)
  ·
   have c3p:=kz c3
   refine Bb (AW (Ag ?_))
   refine AB (.t5 1 2 4 7 18) ?_
   refine AA (AJ ?_)
   refine Gt (Av rfl rfl (IntWalk.i64_in _ (by first | omega | (dsimp only;omega) | (have:=Cx (d.tmod 3+3+k);omega)))) ?_
   refine Gm rfl ?_
   refine AQ (AB (.t5 1 2 4 7 18) ?_)
   refine Bt (k+1) (s) _ ?_ ?_ (.t5 7 18 1 2 4) (.cons _ (.refl _))
   · have hrs:AE.EG d k s=_:=(BB c3)
     have hrg:=AE.FZ (draw:=d) hI14 hI15 hI11 (by omega)
     rw [hrs] at hrg
     exact⟨by omega,by omega,by rw [AE.H8 hI11,← hI13,hrs],hrg.1,hrg.2.1,(by have:=hrg.2.2;omega),(by first | assumption | (have hso:(AE.CC s.1 k ((s.1.AL.at k).B1 - 1) (AE.L8 d k)).out.length=1:=rfl;(try dsimp only at *);simp only [List.length_append] at *;omega))⟩
   · omega
  have c3p:=kz c3
  have hf0:0≤((s.1.AL.at k).B1 - 1)∧((s.1.AL.at k).B1 - 1) < 6:=by omega
  have hbf:=(AE.HI hI14 hf0.1 hf0.2).BH
  refine Aa ?_
  refine AB (.t7 1 2 4 7 8 9 18) ?_
  refine AA (Gs (Gt (Ai GB rfl) (Gt (AG rfl A2 .m0 Aj.l5 rfl rfl) ?_)))
  refine Gt (FR rfl rfl (IntWalk.i64_in _ (by first | omega | (dsimp only;omega) | (have:=Cx (d.tmod 3+3+k);omega)))) ?_
  refine Ga rfl (Gn (.t8 1 2 4 7 8 9 10 18) (Ao (Ao ?_)))
  refine BE (N:=16) [0,0,3,7,15,31,63,127,127,511,1023,2047,127,4223,16383,32767] mix (by kernel_rfl) rfl ?_
  refine Pf 0 rfl (AF rfl) (Pf 1 rfl (Ai Bo rfl) ?_)
  refine Pf 2 rfl (AR C8 rfl rfl (by first | omega | (dsimp only;omega) | (have:=Cx (d.tmod 3+3+k);omega)) (by first | omega | (dsimp only;omega) | (have:=Cx (d.tmod 3+3+k);omega))) ?_
  refine Pf 3 rfl (Ai IP rfl) ?_
  refine Pf 4 rfl (AG rfl Dn .m2 ((AH.l2.comp (AU.arr (n:=6) Aj.fl (by first | omega | (dsimp only;omega) | (have:=Cx (d.tmod 3+3+k);omega)) (by first | omega | (dsimp only;omega) | (have:=Cx (d.tmod 3+3+k);omega)))).comp Aj.l1) rfl rfl) ?_
  refine Pf 5 rfl (BT rfl) (Pf 6 rfl (AF rfl) (Ho 7 42 rfl rfl rfl (fun q=>AF rfl) (Ho 8 42 rfl rfl rfl (fun q=>Ai Bo rfl) ?_)))
  refine BX 9 rfl rfl (by kernel_rfl) (G9 (t:=42) rfl rfl (fun q=>by have q1:=q;(try simp at q1);exact Is (AR C8 (cF rfl q) (cF rfl q) (by first | omega | (dsimp only;omega) | (have:=Cx (d.tmod 3+3+k);omega)) (by first | omega | (dsimp only;omega) | (have:=Cx (d.tmod 3+3+k);omega))))) ?_
  refine Ho 10 42 rfl rfl rfl (fun q=>Ai C2 (cF rfl q)) ?_
  refine BX 11 rfl rfl (by kernel_rfl) (G9 (t:=42) rfl rfl (fun q=>by have q1:=q;(try simp at q1);exact Is (AG (cF rfl q) A2 .m2 ((AH.l2.comp (AU.arr (n:=6) Aj.fl (by first | omega | (dsimp only;omega) | (have:=Cx (d.tmod 3+3+k);omega)) (by first | omega | (dsimp only;omega) | (have:=Cx (d.tmod 3+3+k);omega)))).comp Aj.l3) rfl rfl))) ?_
  refine Ho 12 42 rfl rfl rfl (fun q=>Ai C2 rfl) (Ho 13 42 rfl rfl rfl (fun q=>AG (cF rfl q) A2 .m0 Aj.l3 rfl rfl) (Ho 14 42 rfl rfl rfl (fun q=>Cb (cF rfl q) (cF rfl q)) ?_))
  refine Pf 15 rfl (BS rfl rfl (fun h=>by rw [h];rfl)) ?_
  refine A4 (by kernel_rfl) ?_
  refine AB (.t8 1 2 4 7 8 10 18 51) ?_
  refine AA ?_
  refine Gc (fun c4=>?_) (fun c4=>?_)
  ·
   have c4p:=kz c4
   refine Gs (Gm rfl (Gt (Ai Bo rfl) ?_))
   refine Gt (AR C8 rfl rfl (by first | omega | (dsimp only;omega) | (have:=Cx (d.tmod 3+3+k);omega)) (by first | omega | (dsimp only;omega) | (have:=Cx (d.tmod 3+3+k);omega))) ?_
   refine Gt (Ai GB rfl) ?_
   refine AT (AK ((AH.l2.comp (AU.arr (n:=6) Aj.fl (by first | omega | (dsimp only;omega) | (have:=Cx (d.tmod 3+3+k);omega)) (by first | omega | (dsimp only;omega) | (have:=Cx (d.tmod 3+3+k);omega)))).comp Aj.l5) rfl rfl rfl C6 rfl (.t (.t .h))) ?_
   refine Gn (.t5 1 2 4 7 18) (Bb (AW (Ag (AA (AJ ?_)))))
   refine Gt (Av rfl rfl (IntWalk.i64_in _ (by first | omega | (dsimp only;omega) | (have:=Cx (d.tmod 3+3+k);omega)))) ?_
   refine Gm rfl ?_
   refine AQ (AB (.t5 1 2 4 7 18) ?_)
   refine Bt (k+1) ((s.1.Cw k { s.1.AL.at k with B1:=0 },s.2)) _ ?_ ?_ (.t5 7 18 1 2 4) (.cons _ (.refl _))
   · have hrs:AE.EG d k s=_:=((AX c3).trans (BB c4))
     have hrg:=AE.FZ (draw:=d) hI14 hI15 hI11 (by omega)
     rw [hrs] at hrg
     exact⟨by omega,by omega,by rw [AE.H8 hI11,← hI13,hrs],hrg.1,hrg.2.1,(by have:=hrg.2.2;omega),(by first | assumption | (have hso:(AE.CC s.1 k ((s.1.AL.at k).B1 - 1) (AE.L8 d k)).out.length=1:=rfl;(try dsimp only at *);simp only [List.length_append] at *;omega))⟩
   · omega
  have c4p:=kz c4
  have hsf:=AE.Kx (b:=k) (n:=AE.L8 d k) hI14 hI15 (B1:=((s.1.AL.at k).B1 - 1)) hf0.1 hf0.2 c4p.1
  have hht:=AE.MC (draw:=d) hI11
  refine Aa ?_
  refine AB (.t7 1 2 4 7 8 10 18) ?_
  refine AA (Gs (Gm rfl ?_))
  refine Gt (Th rfl rfl (by first | omega | (dsimp only;omega) | (have:=Cx (d.tmod 3+3+k);omega))) ?_
  refine Gt (Av rfl rfl (IntWalk.i64_in _ (by first | omega | (dsimp only;omega) | (have:=Cx (d.tmod 3+3+k);omega)))) ?_
  refine Gm rfl ?_
  refine Gt (Av rfl rfl (IntWalk.i64_in _ (by first | omega | (dsimp only;omega) | (have:=Cx (d.tmod 3+3+k);omega)))) ?_
  refine Gt (Th rfl rfl (by first | omega | (dsimp only;omega) | (have:=Cx (d.tmod 3+3+k);omega))) ?_
  refine Gt (Av rfl rfl (IntWalk.i64_in _ (by first | omega | (dsimp only;omega) | (have:=Cx (d.tmod 3+3+k);omega)))) ?_
  refine Ga rfl (Gn (.t8 1 2 4 7 8 10 11 18) (Gs (Gt (AZ rfl BW .m2 (AU.id AH.fl.len AH.fl.one) rfl) (Gm rfl (Gt (BC UR UP rfl (.cons Ad.l0 rfl rfl rfl (.cons Ad.l1 rfl rfl rfl .nil))) ?_)))))
  refine B6 rfl rfl rfl (fun b4=>?_)
  refine Ga rfl (Gn (.t8 1 2 4 7 10 11 12 18) (Gs (Gm rfl (Gm rfl (Gm rfl (Gt (BC Nn HZ rfl (.cons Ing.Event.l0 rfl rfl rfl (.cons Ing.Event.l3 rfl rfl rfl (.cons Ing.Event.l5 rfl rfl rfl .nil)))) ?_))))))
  refine Dm Ing.Event.enc 56 16 ?_
  refine Ah rfl N0 (.c rfl (.c rfl .n)) (.c (.t .h) (.c .h .n)) (CN _ ⟨s.1,k,[]⟩ _ { AE.F0 14 with other:=((s.1.AL.at k).B1 - 1),n:=AE.L8 d k } rfl (show 0≤k∧k < 6 by omega) (show((s.1.AL.at k).B1 - 1) < 6 by omega) (Nat.zero_le _)) (fun v3 B hv=>?_)
  obtain⟨y4,rfl,y5,rfl⟩:=hv
  refine Gn (.t8 1 2 4 7 10 11 12 18) (Ao ?_)
  refine BE (N:=16) [0,0,0,0,12,28,60,0,252,508,1,1025,3073,8191,16383,32767] mix (by kernel_rfl) rfl ?_
  refine Pf 0 rfl (AF rfl) (Pf 1 rfl (AF rfl) (Pf 2 rfl (AF rfl) (Pf 3 rfl (Ai Bo rfl) ?_)))
  refine Pf 4 rfl (AR C8 rfl rfl (by first | omega | (dsimp only;omega) | (have:=Cx (d.tmod 3+3+k);omega)) (by first | omega | (dsimp only;omega) | (have:=Cx (d.tmod 3+3+k);omega))) ?_
  refine Pf 5 rfl (Ai JX rfl) ?_
  refine Pf 6 rfl (AG rfl A2 .m4 ((AH.l2.comp (AU.arr (n:=6) Aj.fl (by first | omega | (dsimp only;omega) | (have:=Cx (d.tmod 3+3+k);omega)) (by first | omega | (dsimp only;omega) | (have:=Cx (d.tmod 3+3+k);omega)))).comp Aj.l4) rfl rfl) ?_
  refine Pf 7 rfl (AF rfl) ?_
  refine Pf 8 rfl (FR rfl rfl (IntWalk.i64_in _ (by first | omega | (dsimp only;omega) | (have:=Cx (d.tmod 3+3+k);omega)))) ?_
  refine Pf 9 rfl (Lj rfl rfl) (Pf 10 rfl (BV rfl) (Pf 11 rfl (Ai A9 rfl) (Pf 12 rfl (Ai Bo rfl) ?_)))
  refine Pf 13 rfl (AR C8 rfl rfl (by first | omega | (dsimp only;omega) | (have:=Cx (d.tmod 3+3+k);omega)) (by first | omega | (dsimp only;omega) | (have:=Cx (d.tmod 3+3+k);omega))) ?_
  refine Pf 14 rfl (Ai JX rfl) ?_
  refine An 15 rfl (by kernel_rfl) ?_
  refine AT (AK (((Ad.l0.comp AH.l2).comp (AU.arr (n:=6) Aj.fl (by first | omega | (dsimp only;omega) | (have:=Cx (d.tmod 3+3+k);omega)) (by first | omega | (dsimp only;omega) | (have:=Cx (d.tmod 3+3+k);omega)))).comp Aj.l4) rfl rfl rfl C6 rfl .h) ?_
  refine BN rfl ⟨?_,?_⟩
  · exact(Pk (Pk (Pk (Pk (Pk (Pk (Pk (Pk (Pk (Pk (Pk (Pk (Pk (Pk (Pk As)))))))))))))))
  refine A4 (by kernel_rfl) ?_
  refine AB (.t7 1 2 4 7 10 12 18) ?_
  refine AA (Ao ?_)
  have hl1:y4.len=1:=y5
  refine AJ (Gm rfl (Gm rfl (Gt (BV rfl) (Gt (Ai CJ rfl) (Gt (AG rfl Di .m0 Ad.l2 rfl rfl) ?_)))))
  refine Ce Ing.Event.fl rfl Tryz.underlying53 L6 HZ rfl VP (by decide) (by decide) rfl rfl (fun w hS=>Src.D7 Tryz.underlying53 ((Kn.own .m1) w hS)) (by(try dsimp only at *);omega) (fun _=>(.t (.t (.t .h)))) (fun h6 h6l h6z=>?_)
  refine Ga rfl (Gn (.t7 1 2 4 7 10 12 18) (Gs (Gm rfl (Gt (BV rfl) (Gt (Ai A9 rfl) (Gt (AZ rfl BW .m0 Ad.l0 rfl) ?_))))))
  refine AT (AK (AU.id AH.fl.len AH.fl.one) rfl rfl rfl Dz rfl (.t (.t (.t (.t .h))))) ?_
  refine Gn (.t6 1 2 4 7 10 18) (Gs (Gm rfl (Gt (Ai Bo rfl) ?_)))
  refine Gt (AR C8 rfl rfl (by first | omega | (dsimp only;omega) | (have:=Cx (d.tmod 3+3+k);omega)) (by first | omega | (dsimp only;omega) | (have:=Cx (d.tmod 3+3+k);omega))) ?_
  refine Gt (Ai JX rfl) ?_
  refine Gt (AG rfl A2 .m4 ((AH.l2.comp (AU.arr (n:=6) Aj.fl (by first | omega | (dsimp only;omega) | (have:=Cx (d.tmod 3+3+k);omega)) (by first | omega | (dsimp only;omega) | (have:=Cx (d.tmod 3+3+k);omega)))).comp Aj.l4) rfl rfl) ?_
  refine Gt (Af rfl rfl) (Gn (.t7 1 2 4 7 10 18 102) ?_)
  refine Gc (fun c5=>?_) (fun c5=>?_)
  ·
   have c5p:=kz c5
   refine Gs (Ga rfl (Gn (.t6 1 2 4 7 10 18) (Gs (Gt (AZ rfl BW .m4 (AU.id AH.fl.len AH.fl.one) rfl) (Gm rfl ?_)))))
   refine BF rfl dt (.c rfl (.c rfl .n)) .n (Nw (AE.CC s.1 k ((s.1.AL.at k).B1 - 1) (AE.L8 d k)).w ((s.1.AL.at k).B1 - 1) hsf) (fun w hS=>gl0.pull gm0 hS .n) (fun v7 B hv=>?_)
   obtain⟨y8,rfl,y9,rfl⟩:=hv
   refine Gm rfl (Gt (AN rfl rfl) (Gt (AN rfl rfl) ?_))
   refine AT (AK (AU.id AH.fl.len AH.fl.one) rfl rfl rfl Dz rfl (.t (.t (.t (.t (.t .h)))))) ?_
   refine Ga rfl (Gn (.t6 1 2 4 7 13 18) ?_)
   have hl2:y8.len≤12:=by rw [y9];exact(AE.Pw hsf).2.2
   refine AJ (Gm rfl (Gm rfl ?_))
   refine Ce Ing.Event.fl rfl Tryz.underlying53 L6 HZ rfl VP (by decide) (by decide) rfl rfl (fun w hS=>Src.D7 Tryz.underlying53 ((Kn.own .m0) w hS)) (by(try dsimp only at *);omega) (fun _=>(.t (.t (.t (.t .h))))) (fun h11 h11l h11z=>?_)
   refine Ga rfl ?_
   refine AQ (AB (.t5 1 2 4 7 18) ?_)
   refine AV (AA (AJ ?_))
   refine Gt (Av rfl rfl (IntWalk.i64_in _ (by first | omega | (dsimp only;omega) | (have:=Cx (d.tmod 3+3+k);omega)))) ?_
   refine Gm rfl ?_
   refine AQ (AB (.t5 1 2 4 7 18) ?_)
   refine Bt (k+1) (((AE.Hw (AE.CC s.1 k ((s.1.AL.at k).B1 - 1) (AE.L8 d k)).w ((s.1.AL.at k).B1 - 1)).w,(s.2++(AE.CC s.1 k ((s.1.AL.at k).B1 - 1) (AE.L8 d k)).out)++(AE.Hw (AE.CC s.1 k ((s.1.AL.at k).B1 - 1) (AE.L8 d k)).w ((s.1.AL.at k).B1 - 1)).out)) _ ?_ ?_ (.t5 7 18 1 2 4) (.cons _ (.cons _ (.cons _ (.cons _ (.refl _)))))
   · have hrs:AE.EG d k s=_:=((AX c3).trans ((AX c4).trans (BB c5)))
     have hrg:=AE.FZ (draw:=d) hI14 hI15 hI11 (by omega)
     rw [hrs] at hrg
     exact⟨by omega,by omega,by rw [AE.H8 hI11,← hI13,hrs],hrg.1,hrg.2.1,(by have:=hrg.2.2;omega),(by first | assumption | (have hso:(AE.CC s.1 k ((s.1.AL.at k).B1 - 1) (AE.L8 d k)).out.length=1:=rfl;(try dsimp only at *);simp only [List.length_append] at *;omega))⟩
   · omega
  have c5p:=kz c5
  refine Aa ?_
  refine AB (.t5 1 2 4 7 18) ?_
  refine AV (AA (AJ ?_))
  refine Gt (Av rfl rfl (IntWalk.i64_in _ (by first | omega | (dsimp only;omega) | (have:=Cx (d.tmod 3+3+k);omega)))) ?_
  refine Gm rfl ?_
  refine AQ (AB (.t5 1 2 4 7 18) ?_)
  refine Bt (k+1) (((AE.CC s.1 k ((s.1.AL.at k).B1 - 1) (AE.L8 d k)).w,s.2++(AE.CC s.1 k ((s.1.AL.at k).B1 - 1) (AE.L8 d k)).out)) _ ?_ ?_ (.t5 7 18 1 2 4) (.cons _ (.cons _ (.cons _ (.refl _))))
  · have hrs:AE.EG d k s=_:=((AX c3).trans ((AX c4).trans (AX c5)))
    have hrg:=AE.FZ (draw:=d) hI14 hI15 hI11 (by omega)
    rw [hrs] at hrg
    exact⟨by omega,by omega,by rw [AE.H8 hI11,← hI13,hrs],hrg.1,hrg.2.1,(by have:=hrg.2.2;omega),(by first | assumption | (have hso:(AE.CC s.1 k ((s.1.AL.at k).B1 - 1) (AE.L8 d k)).out.length=1:=rfl;(try dsimp only at *);simp only [List.length_append] at *;omega))⟩
  · omega
 have c2p:=kz c2
 obtain rfl:k=6:=by omega
 refine Bb (AW (AW (Ag ?_)))
 refine AB (.t3 2 4 7) ?_
 refine AA (Gs (Gt (AZ rfl BW .m1 (AU.id AH.fl.len AH.fl.one) rfl) (Gm rfl ?_)))
 refine AT (AK (AU.id AH.fl.len AH.fl.one) rfl rfl rfl Dz rfl (.t (.t .h))) ?_
 refine Ga rfl (Ga rfl (Gn (.t3 4 5 6) (Ac ?_)))
 refine AY rfl (.cell rfl .m2 (.inl ⟨(by rw [AH.fl.len];exact BW),rfl⟩) (.tmp rfl (.tmp rfl .n))) ?_
 intro w1 hS
 have hS:=(hS.perm (Ax.perm (.c .h .n))).A1
 have hq:AE.CW X d=((AE.DW X d 6).1,(AE.DW X d 6).2,0):=AX c1
 have hs6:s=AE.DW X d 6:=hI13
 rw [← hs6] at hq
 refine⟨_,⟨h,?hv,?hl,?hB⟩,hS⟩
 case hv=>rw [hq];(try rfl)
 case hl=>rw [hq];exact hI17
 case hB=>rw [hq];(try rfl)
theorem ET (p:Az)(s:Ap)(hs:s.length≤9000000000000000000)(w:World):Ed Tryz.prog 62 #[.agg p.enc.toArray,BU s] w fun v w'=>v = .tuple #[.agg (Az.enc ⟨p.wait,(Page.send p s).1.shown,(Page.send p s).1.B9,(Page.send p s).1.ring,(Page.send p s).1.cut⟩).toArray, .int .i64 (Page.send p s).2]∧CA w w':=by
 refine Ak [] [] Tryz.func62 rfl rfl rfl (St.start w []) ?_
 refine Gs ?_
 refine B6 rfl rfl rfl (fun b1=>?_)
 refine BD rfl W9 rfl (fun b2=>?_)
 refine Ga rfl (Gn (.t3 1 2 4) (Ao (Ae (Gs (Gt (AZ rfl C5 .m1 (AU.id Az.fl.len Az.fl.one) rfl) ?_)))))
 refine BA rfl av (.c rfl .n) (fun w hS=>Gv _ w) ?_
 refine Gt (BT rfl) (Ga rfl (Gn (.t4 1 2 4 6) ?_))
 refine Gc (fun c1=>?_) (fun c1=>?_)
 ·
  refine Gs (Gt (AZ rfl C5 .m1 (AU.id Az.fl.len Az.fl.one) rfl) ?_)
  refine AT (AK (AU.id Az.fl.len Az.fl.one) rfl rfl rfl Fz rfl .h) ?_
  refine Ga rfl (Gn (.t2 4 5) (Ac (AS (AD ?_))))
  refine AY rfl (.cell rfl .m0 (.inl ⟨(by rw [Az.fl.len];exact C5),rfl⟩) (.tmp rfl .n)) ?_
  intro w1 hS;refine⟨?_,hS.Am⟩;simp only [Page.send,Page.put,Page.of,c1,↓reduceIte,Bool.false_eq_true];rfl
 have c1p:=kz c1
 have hg:=(Page.Hl p).1 (by simpa using c1)
 refine Gs (Gt (Ai LD rfl) (Gt (AG rfl Dn .m1 Az.l4 rfl rfl) (Ga rfl (Gn (.t4 1 2 4 11) ?_))))
 refine Gc (fun c2=>?_) (fun c2=>?_)
 ·
  refine Gs (Gt (AZ rfl C5 .m1 (AU.id Az.fl.len Az.fl.one) rfl) ?_)
  refine AT (AK (AU.id Az.fl.len Az.fl.one) rfl rfl rfl Fz rfl .h) ?_
  refine Ga rfl (Gn (.t2 4 5) (Ac (AS (AD ?_))))
  refine AY rfl (.cell rfl .m0 (.inl ⟨(by rw [Az.fl.len];exact C5),rfl⟩) (.tmp rfl .n)) ?_
  intro w1 hS;refine⟨?_,hS.Am⟩;rw [show Page.send p s=(Page.of p,6) from by simp only [Page.send,c1,c2,↓reduceIte,Bool.false_eq_true]];rfl
 have c2p:=kz c2
 refine Gs (Gm rfl (Gt (BI rfl Tryz.underlying9 rfl) (Gt (Ai Jk rfl) (Gt (AG rfl CX .m1 Az.l3 rfl rfl) (Gt (BI rfl Tryz.underlying9 rfl) ?_)))))
 refine Gt (FR rfl rfl (IntWalk.i64_in _ (by first | omega | (simp at *;omega)))) ?_
 refine Gt (Cn rfl rfl) (Ga rfl (Gn (.t4 1 2 4 15) ?_))
 refine Gc (fun c3=>?_) (fun c3=>?_)
 ·
  refine Gs (Gt (Ai LD rfl) ?_)
  refine AT (AK Az.l4 rfl rfl rfl KU rfl (.t .h)) ?_
  refine Gn (.t2 2 4) (Gs (Gt (AZ rfl C5 .m1 (AU.id Az.fl.len Az.fl.one) rfl) ?_))
  refine AT (AK (AU.id Az.fl.len Az.fl.one) rfl rfl rfl Fz rfl .h) ?_
  refine Ga rfl (Gn (.t2 4 5) (Ac (AS (AD ?_))))
  refine AY rfl (.cell rfl .m0 (.inl ⟨(by rw [Az.fl.len];exact C5),rfl⟩) (.tmp rfl .n)) ?_
  intro w1 hS;refine⟨?_,hS.Am⟩;simp only [Page.send,Page.put,Page.of,c1,c2,c3,↓reduceIte,Bool.false_eq_true];rfl
 have c3p:=kz c3
 refine Aa ?_
 refine AB (.t3 1 2 4) ?_
 refine AV (AA (Gs (Gt (Ai Jk rfl) (Gt (AG rfl CX .m1 Az.l3 rfl rfl) (Gm rfl ?_)))))
 refine Gt (CV rfl rfl (by first | omega | (simp at *;omega))) ?_
 refine Gt (Ai Jk rfl) ?_
 refine AT (AK Az.l3 rfl rfl rfl E5 rfl (.t .h)) ?_
 refine Gn (.t2 2 4) (Gs (Gt (AZ rfl C5 .m1 (AU.id Az.fl.len Az.fl.one) rfl) ?_))
 refine AT (AK (AU.id Az.fl.len Az.fl.one) rfl rfl rfl Fz rfl .h) ?_
 refine Ga rfl (Gn (.t2 4 5) (Ac ?_))
 refine AY rfl (.cell rfl .m0 (.inl ⟨(by rw [Az.fl.len];exact C5),rfl⟩) (.tmp rfl .n)) ?_
 intro w1 hS;refine⟨?_,hS.Am⟩;simp only [Page.send,Page.put,Page.of,c1,c2,c3,↓reduceIte,Bool.false_eq_true];rfl
theorem Hr (b:Nat)(m:Int)(h0:0 < m)(h1:m≤281474976710656):JQ Tryz.prog 186 #[.pointer (some ⟨b,0,none⟩), .int .i64 m] [Ab.box b 107 (DY.enc ⟨some ⟨b,0,none⟩,⟨none,0,0⟩⟩)] (fun v B=>∃ h',v = .tuple #[]∧h'.Z∧h'.len=0∧B = [Ab.box b 107 (DY.enc ⟨some ⟨b,0,none⟩,h'⟩),Ab.own h' 5 1 (([]:Ap).flatMap DT)]):=by
 intro w hS0
 refine Ak _ _ Tryz.func186 rfl rfl rfl (hS0) ?_
 refine Ao ?_
 refine BE (N:=16) [0,1,3,7,15,31,0,127,255,0,512,1536,3584,7680,16383,32767] mix (by kernel_rfl) rfl ?_
 refine Pf 0 rfl (AF rfl) (Pf 1 rfl (BV rfl) (Pf 2 rfl (Ai Ev rfl) (Pf 3 rfl (AG rfl IM .m0 DY.l1 rfl rfl) (Pf 4 rfl (Lv rfl Tryz.underlying105 rfl) ?_))))
 refine Pf 5 rfl (XY rfl rfl (IntWalk.i64_in _ (by first | omega | (dsimp only;omega)))) ?_
 refine Pf 6 rfl (AF rfl) ?_
 refine Pf 7 rfl (Av rfl rfl (IntWalk.i64_in _ (by first | omega | (dsimp only;omega)))) ?_
 refine Pf 9 rfl (AF rfl) (Pf 10 rfl (BV rfl) (Pf 11 rfl (Ai Ev rfl) (Pf 12 rfl (AG rfl IM .m0 DY.l1 rfl rfl) (Pf 13 rfl (Ar rfl Tryz.underlying105 rfl) ?_))))
 refine An 8 rfl (by kernel_rfl) ?_
 refine SW (ps:=#[3]) rfl Tryz.func193 (by kernel_rfl) (by kernel_rfl) (by kernel_rfl) (by kernel_rfl) Tryz.underlying105 VY rfl (by first | omega | (dsimp only;omega)) (by first | omega | (dsimp only;omega)) (fun b1 b1c b1x b1l b1k=>?_)
 refine Bq rfl ⟨?_,?_⟩
 · exact(Po rfl (Ar rfl Tryz.underlying105 rfl) rfl rfl (Po rfl (AG rfl IM .m1 DY.l1 rfl rfl) rfl rfl (Po rfl (Ai Ev rfl) rfl rfl (Po rfl (BV rfl) rfl rfl (Po rfl (AF rfl) rfl rfl (Pk (Pk (Pk (Pk (Pk (Pk (Pk (Pk As)))))))))))))
 refine An 14 rfl (by kernel_rfl) ?_
 refine KD WY rfl Tryz.underlying105 VY rfl rfl (by first | omega | (dsimp only;omega)) (by first | omega | (dsimp only;omega)) (fun _=> .h) ?_
 refine Bq rfl ⟨?_,?_⟩
 · exact(Pk (Pk (Pk (Pk (Pk (Pk (Pk (Pk (Pk (Pk (Pk (Pk (Pk As)))))))))))))
 refine Pf 15 rfl (A0 rfl) ?_
 refine A4 (by kernel_rfl) ?_
 refine AB (.t2 0 4) ?_
 refine AA (Gs (Gm rfl (Gm rfl (Gt (BV rfl) (Gt (Ai Ev rfl) (Gt (AG rfl IM .m1 DY.l1 rfl rfl) (Gt (X8 rfl Tryz.underlying105 VY rfl rfl) ?_)))))))
 refine Gn (.t2 0 4) (AJ (Gm rfl (Gm rfl (Gt (BV rfl) (Gt (Ai Ev rfl) ?_)))))
 refine AT (AK DY.l1 rfl rfl rfl Ua rfl (.t .h)) ?_
 refine AQ ?_
 refine Bk rfl .n ?_
 intro w1 hS
 have hS:=(hS.perm (Ax.perm (.c (.t .h) (.c .h .n)))).A1
 exact⟨_,⟨_,rfl,⟨by intro a h;cases h;rfl,fun _=>by dsimp only at b1k ⊢;omega⟩,rfl,rfl⟩,hS⟩
theorem Ht (b:Nat)(m:Int)(h0:0≤m)(h1:m≤281474976710656):JQ Tryz.prog 175 #[.pointer (some ⟨b,0,none⟩), .int .i64 m] [Ab.box b 107 (DY.enc ⟨none,⟨none,0,0⟩⟩)] (fun v B=>∃ h',v = .tuple #[]∧h'.Z∧h'.len=0∧B = [Ab.box b 107 (DY.enc ⟨some ⟨b,0,none⟩,h'⟩),Ab.own h' 5 1 (([]:Ap).flatMap DT)]):=by
 intro w hS0
 refine Ak _ _ Tryz.func175 rfl rfl rfl (hS0) ?_
 refine Gs (Gm rfl ?_)
 refine Ah rfl aT (.c rfl .n) (.c .h .n) (DB _ _ _ (.inl rfl)) (fun v1 B hv=>?_)
 obtain⟨rfl,rfl⟩:=hv
 refine Gn (.t2 0 1) (CG (Gm rfl (Gt (A7 rfl rfl) (Gn (.t3 0 1 7) ?_))))
 refine Dr rfl (by simp;omega) ?_
 refine Aa ?_
 refine AB (.t2 0 1) ?_
 refine AA (Ao ?_)
 refine BE (N:=13) [0,1,3,7,15,0,32,96,224,480,1023,0,4095] mix (by kernel_rfl) rfl ?_
 refine Pf 0 rfl (AF rfl) (Pf 1 rfl (BV rfl) (Pf 2 rfl (Ai Ev rfl) (Pf 3 rfl (AG rfl IM .m0 DY.l1 rfl rfl) (Pf 4 rfl (Lv rfl Tryz.underlying105 rfl) (Pf 5 rfl (AF rfl) (Pf 6 rfl (BV rfl) (Pf 7 rfl (Ai Ev rfl) ?_)))))))
 refine Pf 8 rfl (AG rfl IM .m0 DY.l1 rfl rfl) (Pf 9 rfl (Ar rfl Tryz.underlying105 rfl) ?_)
 refine Pf 10 rfl (FR rfl rfl (IntWalk.i64_in _ (by first | omega | (dsimp only;omega)))) ?_
 refine Pf 11 rfl (AF rfl) (Pf 12 rfl (A7 rfl rfl) ?_)
 refine A4 (by kernel_rfl) ?_
 refine AB (.t3 0 1 21) ?_
 refine AA ?_
 refine Gc (fun c1=>?_) (fun c1=>?_)
 ·
  have c1p:=kz c1
  refine AJ (Gm rfl (Gm rfl ?_))
  refine Ah rfl dC (.c rfl (.c rfl .n)) (.c .h .n) (Hr _ _ (by dsimp only at *;omega) h1) (fun v2 B hv=>?_)
  obtain⟨y3,rfl,y4,y5,rfl⟩:=hv
  refine AQ ?_
  refine Bk rfl .n ?_
  intro w1 hS
  have hS:=(hS.perm (Ax.perm (.c .h (.c .h .n)))).A1
  exact⟨_,⟨_,rfl,by assumption,by assumption,rfl⟩,hS⟩
 refine Aa ?_
 refine Bk rfl .n ?_
 intro w1 hS
 have hS:=hS.Cs 5 1
 have hS:=(hS.perm (Ax.perm (.c (.t .h) (.c .h .n)))).A1
 exact⟨_,⟨_,rfl,Hd.UW,rfl,rfl⟩,hS⟩
theorem J2 (s:Ap)(hs:s.length≤70368744000000)(w:World):Ed Tryz.prog 158 #[BU s,BU [255],BU [255,255], .int .i64 (-1)] w fun v w'=>v=BU (Page.escape s)∧CA w w':=by
 have hcl:=List.count_le_length (a:=(255:UInt8)) (l:=s)
 refine Ak [] [] Tryz.func158 rfl rfl rfl (St.start w []) ?_
 refine Gs (Ga rfl (Gn (.t4 0 1 2 3) (CG (Gm rfl (Gm rfl (Gt (Bw rfl rfl) (Gm rfl ?_)))))))
 refine Bg 19 rfl rfl (fun q=>AF rfl) (Bg 19 rfl rfl (fun q=>Af (cF rfl q) rfl) ?_)
 refine Gt (BS rfl rfl (fun h=>by rw [h];rfl)) ?_
 refine Gn (.t5 0 1 2 3 22) ?_
 refine Dr rfl (by simp) ?_
 refine Aa ?_
 refine AB (.t4 0 1 2 3) ?_
 refine AA (CG (Gm rfl (Gm rfl ?_)))
 refine BA rfl Zq (.c rfl (.c rfl .n)) (fun w hS=>Hc _ 255 w) ?_
 refine Ga rfl (Gn (.t5 0 1 2 3 9) (Gs (Gm rfl (Gt (Af rfl rfl) (Gn (.t6 0 1 2 3 9 28) ?_)))))
 refine Gc (fun c1=>?_) (fun c1=>?_)
 ·
  have c1p:=kz c1
  refine Gs (Gm rfl (Ga rfl (Gn (.t1 8) (Ac (AD ?_)))))
  refine AY rfl (.tmp rfl .n) ?_
  intro w1 hS;refine⟨?_,hS.Am⟩;have e:s.count 255=0:=by simp at c1;omega
  rw [Page.Mw _ e];rfl
 have c1p:=kz c1
 refine Gs (Gm rfl (Gt (A7 rfl rfl) (Gm rfl (Bg 32 rfl rfl (fun q=>AF rfl) (Bg 32 rfl rfl (fun q=>AF rfl) (Bg 32 rfl rfl (fun q=>A7 (cF rfl q) (cF rfl q)) ?_))))))
 refine Gt (BS rfl rfl (fun h=>by rw [h];rfl)) ?_
 refine Gn (.t6 0 1 2 3 9 36) ?_
 refine G1 rfl rfl ?_
 refine AJ (Gm rfl (Ga rfl (Gn (.t4 0 1 2 3) (Gs ?_))))
 refine BD rfl Uu rfl (fun b1=>?_)
 refine Dm DT 5 1 ?_
 refine AQ (AA (Gs (Gm rfl (Gt (BI rfl Tryz.underlying9 rfl) (Gm rfl (Gm rfl (Gt (BI rfl Tryz.underlying9 rfl) ?_)))))))
 refine Gm rfl (Gt (BI rfl Tryz.underlying9 rfl) ?_)
 refine Gt (FR rfl rfl (IntWalk.i64_in _ (by(try simp only [List.length_cons,List.length_nil]);omega))) ?_
 refine Gt (XY rfl rfl (IntWalk.i64_in _ (by(try simp only [List.length_cons,List.length_nil]);omega))) ?_
 refine Gt (Av rfl rfl (IntWalk.i64_in _ (by(try simp only [List.length_cons,List.length_nil]);omega))) ?_
 refine Ah rfl cn (.c rfl (.c rfl .n)) (.c (.t .h) .n) (Ht _ _ (by simp only [List.length_cons,List.length_nil];omega) (by simp only [List.length_cons,List.length_nil];omega)) (fun v1 B hv=>?_)
 obtain⟨y2,rfl,y3,y4,rfl⟩:=hv
 refine Gn (.t5 0 1 2 3 10) (Gs (Ga rfl (AQ (AA (CG (Gm rfl (Gt (BI rfl Tryz.underlying9 rfl) ?_)))))))
 refine Gt (Cn rfl rfl) (Gn (.t7 0 1 2 3 10 11 51) ?_)
 refine G1 rfl (by simp) ?_
 refine Gs (Gm rfl (Gm rfl (Gn (.t7 0 1 2 10 11 52 53) (Ae ?_))))
 refine Bn (.t7 11 53 0 1 2 10 52) ?_
 refine Ba (.t .h) ?_
 refine Ba (.t .h) ?_
 refine R8 (fun(k:Int) (start:Int) (x:Ap) (p:Option Addr) (h:Hd)=>Page.RK s (s.count 255) k start x∧(p=none∨p=some ⟨b1,0,none⟩)∧h.Z∧h.len=x.length) (fun(k:Int) (start:Int) (x:Ap) (p:Option Addr) (h:Hd)=>((s.count 255:Int) - k).toNat) (fun(k:Int) (start:Int) (x:Ap) (p:Option Addr) (h:Hd)=> [(11, .int .i64 start),(53, .int .i64 k)]) (fun(k:Int) (start:Int) (x:Ap) (p:Option Addr) (h:Hd)=> [Ab.box b1 107 (DY.enc ⟨p,h⟩),Ab.own h 5 1 (x.flatMap DT)]) (0) (0) ([]) (_) (_) ?_ rfl rfl (fun k start x p h hI1=>?_)
 · exact⟨Page.RK.start rfl, .inr rfl,by assumption,by assumption⟩
 obtain⟨hI11,hp,hz,hl⟩:=hI1;have hk0:=hI11.k0;have hs0:=hI11.s0;have hs1:=hI11.s1;have hxl:=hI11.xl
 refine Gs (Gt (A7 rfl rfl) (AQ (AA (Ao ?_))))
 refine Gc (fun c2=>?_) (fun c2=>?_)
 ·
  have c2p:=kz c2
  obtain⟨i,hi,hlt,hR⟩:=hI11.idx (by omega)
  rw [← hi] at hR hlt
  refine Aa ?_
  refine AB (.t7 0 1 2 10 11 52 53) ?_
  refine AA (Ao (Ae (Gs (Gm rfl (Gm rfl (Gm rfl ?_))))))
  refine Gt (GY Tryz.underlying9 rfl rfl (by(try simp only [List.length_cons,List.length_nil]);omega) (by(try simp only [List.length_cons,List.length_nil]);omega)) ?_
  refine Gm rfl ?_
  refine BA rfl XX (.c rfl (.c rfl .n)) (fun w hS=>FQ _ 255 w) ?_
  refine Gt (Av rfl rfl (IntWalk.i64_in _ (by(try simp only [List.length_cons,List.length_nil]);omega))) ?_
  refine Ga rfl (Gn (.t8 0 1 2 10 11 12 52 53) (Gs (Gm rfl (Gm rfl (Gm rfl ?_)))))
  refine Gt (Yb Tryz.underlying9 rfl rfl rfl (by(try simp only [List.length_cons,List.length_nil]);omega) (by(try simp only [List.length_cons,List.length_nil]);omega) (by(try simp only [List.length_cons,List.length_nil]);omega)) ?_
  refine Ah rfl Pp (.c rfl (.c rfl .n)) (.c .h (.c .h .n)) (BK _ _ _ _ (by assumption) (by assumption) (by assumption) _ (by(try simp only [List.length_drop,List.length_take,List.length_append,List.length_cons,List.length_nil]);omega)) (fun v6 B hv=>?_)
  obtain⟨y7,y8,rfl,y9,y10,y11,rfl⟩:=hv
  refine Gn (.t7 0 1 2 10 12 52 53) (Gs (Gm rfl ?_))
  refine Ah rfl Pp (.c rfl (.c rfl .n)) (.c .h (.c .h .n)) (BK _ _ _ _ (by assumption) (by assumption) (by assumption) _ (by(try simp only [List.length_drop,List.length_take,List.length_append,List.length_cons,List.length_nil]);omega)) (fun v12 B hv=>?_)
  obtain⟨y13,y14,rfl,y15,y16,y17,rfl⟩:=hv
  refine Gn (.t7 0 1 2 10 12 52 53) (AJ (Gm rfl (Gm rfl (Gt (BI rfl Tryz.underlying9 rfl) ?_))))
  refine Gt (Av rfl rfl (IntWalk.i64_in _ (by(try simp only [List.length_cons,List.length_nil]);omega))) ?_
  refine Ga rfl ?_
  refine AQ (AB (.t7 0 1 2 10 11 52 53) ?_)
  refine AV (AA (AJ ?_))
  refine Gt (Av rfl rfl (IntWalk.i64_in _ (by(try simp only [List.length_cons,List.length_nil]);omega))) ?_
  refine Gm rfl ?_
  refine AQ (AB (.t7 0 1 2 10 11 52 53) ?_)
  refine J9 (k+1) _ _ _ _ ?_ ?_ (.t7 11 53 0 1 2 10 52) (.refl _)
  · exact⟨hR,by assumption,by assumption,by assumption⟩
  · omega
 have c2p:=kz c2
 refine Bb (AW (AW (Ag ?_)))
 refine AB (.t3 0 10 11) ?_
 refine AA (Gs (Gm rfl (Gm rfl ?_)))
 refine Gt (GY Tryz.underlying9 rfl rfl (by(try simp only [List.length_cons,List.length_nil]);omega) (by(try simp only [List.length_cons,List.length_nil]);omega)) ?_
 refine Ah rfl Pp (.c rfl (.c rfl .n)) (.c .h (.c .h .n)) (BK _ _ _ _ (by assumption) (by assumption) (by assumption) _ (by(try simp only [List.length_drop,List.length_take,List.length_append,List.length_cons,List.length_nil]);omega)) (fun v18 B hv=>?_)
 obtain⟨y19,y20,rfl,y21,y22,y23,rfl⟩:=hv
 refine Gn (.t1 10) (Gs ?_)
 refine Ah rfl ZF (.c rfl .n) (.c .h (.c .h .n)) (Cy _ _ _ _ (by assumption) (by assumption) (by(try simp only [List.length_append,List.length_drop]);omega)) (fun v24 B hv=>?_)
 obtain⟨rfl,rfl⟩:=hv
 refine Ga rfl (Gn (.t1 8) (Ac ?_))
 refine AY rfl (.tmp rfl .n) ?_
 intro w1 hS;refine⟨?_,hS.Am⟩;rw [← hI11.done (by omega)];rfl
theorem IW (s:Ap)(hs:s.length≤70368744000000)(w:World):Ed Tryz.prog 126 #[BU s,BU [255],BU [255,255]] w fun v w'=>v=BU (Page.escape s)∧CA w w':=by
 refine Ak [] [] Tryz.func126 rfl rfl rfl (St.start w []) ?_
 refine Gs (Ga rfl (Gn (.t3 0 1 2) (Gs (Gm rfl (Gm rfl (Gm rfl ?_))))))
 refine BA rfl cu (.c rfl (.c rfl (.c rfl (.c rfl .n)))) (fun w hS=>J2 _ (by first | assumption | omega) w) ?_
 refine Ga rfl (Gn (.t1 6) (Ac ?_))
 refine AY rfl (.tmp rfl .n) ?_
 intro w1 hS;refine⟨?_,hS.Am⟩;rfl
theorem Kk (s:Ap)(hs:s.length≤70368744000000)(w:World):Ed Tryz.prog 98 #[BU s] w fun v w'=>v=BU (Page.escape s)∧CA w w':=by
 refine Ak [] [] Tryz.func98 rfl rfl rfl (St.start w []) ?_
 refine Gs (Ga rfl (Gn (.t1 0) (Gs (Gm rfl ?_))))
 refine BA rfl cV (.c rfl (.c rfl (.c rfl .n))) (fun w hS=>IW _ (by first | assumption | omega) w) ?_
 refine Ga rfl (Gn (.t1 2) (Ac ?_))
 refine AY rfl (.tmp rfl .n) ?_
 intro w1 hS;refine⟨?_,hS.Am⟩;rfl
theorem NN {t0:Nat}(p:Az)(qs:List Ap)(top:Int)(hs:∀ s∈qs,s.length≤70368744000000):FU Tryz.prog 83 #[.agg p.enc.toArray, .int .i64 top] [] (fun w=>Rd w p.wait t0 1 (qs.flatMap A8)∧p.wait.len≤p.wait.cap) (fun v B=>((!Page.Bh p || decide (top < 0) || decide (200 < top))=true∧v = .tuple #[.agg p.enc.toArray, .int .i64 2]∧B = [])∨((!Page.Bh p || decide (top < 0) || decide (200 < top))=false∧∃(T:Nat) (h' g:Hd) (zs:List Ap),v = .tuple #[.agg (Az.enc ⟨h',(Page.BZ top qs (Page.of p)).1.shown,(Page.BZ top qs (Page.of p)).1.B9,(Page.BZ top qs (Page.of p)).1.ring,(Page.BZ top qs (Page.of p)).1.cut⟩).toArray, .int .i64 0]∧h'.len=(Page.BZ top qs (Page.of p)).2.length∧bC T h' (Page.BZ top qs (Page.of p)).2 t0 p.wait qs 9 g zs∧B = [Ab.own g 9 1 (zs.flatMap A8)])):=by
 intro w hS0 hH
 obtain⟨r0,k0⟩:=hH
 have hl0:=r0.La DX (by decide)
 refine Ak _ _ Tryz.func83 rfl rfl rfl (hS0) ?_
 refine Gs ?_
 refine B6 rfl rfl rfl (fun b1=>?_)
 refine BD rfl W9 rfl (fun b2=>?_)
 refine Ga rfl (Gn (.t3 1 2 4) (CG (Gt (AZ rfl C5 .m1 (AU.id Az.fl.len Az.fl.one) rfl) ?_)))
 refine BA rfl av (.c rfl .n) (fun w hS=>Gv _ w) ?_
 refine Gt (BT rfl) (Gm rfl (Bg 10 rfl rfl (fun q=>AF rfl) (Bg 10 rfl rfl (fun q=>A7 (cF rfl q) rfl) ?_)))
 refine Gt (BS rfl rfl (fun h=>by rw [h];rfl)) ?_
 refine Gm rfl (Bg 14 rfl rfl (fun q=>AF rfl) (Bg 14 rfl rfl (fun q=>Cn (cF rfl q) rfl) ?_))
 refine Gt (BS rfl rfl (fun h=>by rw [h];rfl)) ?_
 refine Gn (.t4 1 2 4 17) ?_
 refine Gc (fun c1=>?_) (fun c1=>?_)
 ·
  refine Gs (Gt (AZ rfl C5 .m1 (AU.id Az.fl.len Az.fl.one) rfl) ?_)
  refine AT (AK (AU.id Az.fl.len Az.fl.one) rfl rfl rfl Fz rfl .h) ?_
  refine Ga rfl (Gn (.t2 4 5) (Ac (AD ?_)))
  refine AY rfl (.cell rfl .m0 (.inl ⟨(by rw [Az.fl.len];exact C5),rfl⟩) (.tmp rfl .n)) ?_
  intro w1 hS
  have hS:=(hS.perm (Ax.perm .n)).A1
  exact⟨_, .inl ⟨c1,rfl,rfl⟩,hS⟩
 have c1p:=kz c1
 have hgd:Page.Bh p=true∧0≤top∧top≤200:=by simp at c1;exact⟨c1.1.1,by omega,by omega⟩
 refine Aa ?_
 refine AB (.t3 1 2 4) ?_
 refine AA (Ao (Ae ?_))
 refine Bn (.t3 1 2 4) ?_
 refine E7 A8 9 1 ?_
 refine Ba (.t (.t .h)) ?_
 refine Ba (.t .h) ?_
 refine YM (fun(rest:List Ap) (sh:Int) (ak:Bool) (ring:Ap) (ct:Bool) (T:Nat) (hx:Hd) (g:Hd) (zs:List Ap)=>Page.FI top qs (Page.of p) rest hx ⟨sh,ak,ring,ct⟩∧bC T hx rest t0 p.wait qs 9 g zs) (fun(rest:List Ap) (sh:Int) (ak:Bool) (ring:Ap) (ct:Bool) (T:Nat) (hx:Hd) (g:Hd) (zs:List Ap)=>rest.length) (fun(rest:List Ap) (sh:Int) (ak:Bool) (ring:Ap) (ct:Bool) (T:Nat) (hx:Hd) (g:Hd) (zs:List Ap)=> []) (fun(rest:List Ap) (sh:Int) (ak:Bool) (ring:Ap) (ct:Bool) (T:Nat) (hx:Hd) (g:Hd) (zs:List Ap)=> [Ab.own g 9 1 (zs.flatMap A8),Ab.box b1 65 (Az.enc ⟨hx,sh,ak,ring,ct⟩)]) (qs) (p.shown) (p.B9) (p.ring) (p.cut) (t0) (p.wait) (_) (_) ?_ rfl rfl (fun rest sh ak ring ct T hx g zs hI1=>?_)
 · exact⟨Page.FI.start hgd.1 hl0 hs, .inl ⟨rfl,rfl,rfl,rfl,rfl⟩⟩
 obtain⟨hI11,hor⟩:=hI1;have hl:=hI11.hl;have hn:=hI11.n;have hr:=hI11.ring;have hs0:=hI11.s0;have hs1:=hI11.s1;dsimp only at hr hs0 hs1
 refine CG (Gt (Ai Jp rfl) (Gt (AG rfl F3 .m1 Az.l0 rfl rfl) (Gt (Ar rfl Tryz.underlying52 rfl) (Gt (Cn rfl rfl) (Gm rfl (Bf 23 rfl rfl (fun q=>Ai Qn rfl) (Bf 23 rfl rfl (fun q=>AG (Bc rfl q) Dn .m1 Az.l2 rfl rfl) ?_)))))))
 refine Bf 23 rfl rfl (fun q=>BT (Bc rfl q)) (Gt (BG rfl rfl (fun h=>h)) (Gm rfl (Bf 28 rfl rfl (fun q=>Ai LD rfl) (Bf 28 rfl rfl (fun q=>AG (Bc rfl q) Dn .m1 Az.l4 rfl rfl) (Bf 28 rfl rfl (fun q=>BT (Bc rfl q)) (Gt (BG rfl rfl (fun h=>h)) (Gn (.t4 1 2 4 32) ?_)))))))
 refine Gc (fun c2=>?_) (fun c2=>?_)
 ·
  have c2p:=kz c2
  have hc3:0 < rest.length∧ak=false∧ct=false:=by simp at c2;exact⟨by omega,c2.1.2,c2.2⟩
  obtain⟨hc0,hak,hct⟩:=hc3
  obtain⟨q,r,rfl⟩:=Bi.UN (qs:=rest) (by omega)
  refine Aa ?_
  refine AB (.t3 1 2 4) ?_
  refine AA (Ae (CG (Gm rfl (Gt (Cn rfl rfl) (Gm rfl (Bf 35 rfl rfl (fun q=>Ai Mi rfl) (Bf 35 rfl rfl (fun q=>AG (Bc rfl q) A2 .m1 Az.l1 rfl rfl) ?_)))))))
  refine Bf 35 rfl rfl (fun q=>AF rfl) (Bf 35 rfl rfl (fun q=>CK (Bc rfl q) (Bc rfl q)) (Gt (BG rfl rfl (fun h=>h)) (Gn (.t4 1 2 4 40) ?_)))
  refine Gc (fun c3=>?_) (fun c3=>?_)
  ·
   have c3p:=kz c3
   refine Gs (Gt (Ai Qn rfl) ?_)
   refine AT (AK Az.l2 rfl rfl rfl KU rfl (.t .h)) ?_
   refine Gn (.t2 2 4) (Gs (Gt (AZ rfl C5 .m1 (AU.id Az.fl.len Az.fl.one) rfl) ?_))
   refine BA rfl XW (.c rfl (.c rfl .n)) (fun w hS=>ET _ _ (by first | omega | (have h1:=Page.HW ((q :: r).getD (0:Int).toNat []);have h2:=hI11.len ((q :: r).getD (0:Int).toNat []) (by simp);simp only [List.length_append,List.length_cons,List.length_nil] at *;omega)) w) ?_
   refine Gm rfl (Gt (AN rfl rfl) (Gt (AN rfl rfl) ?_))
   refine AT (AK (AU.id Az.fl.len Az.fl.one) rfl rfl rfl Fz rfl (.t .h)) ?_
   refine Gn (.t2 2 4) (Bb (AW ?_))
   refine Jt rfl ?_
   refine AW (Ag (AA (Gs (Gt (AZ rfl C5 .m1 (AU.id Az.fl.len Az.fl.one) rfl) ?_))))
   refine AT (AK (AU.id Az.fl.len Az.fl.one) rfl rfl rfl Fz rfl (.t (.t .h))) ?_
   refine Ga rfl (Gn (.t2 4 5) (Ac ?_))
   refine AY rfl (.cell rfl .m2 (.inl ⟨(by rw [Az.fl.len];exact C5),rfl⟩) (.tmp rfl .n)) ?_
   intro w1 hS
   have hS:=(hS.perm (Ax.perm (.c .h .n))).A1
   have e:=hI11.asks hak hct c3
   exact⟨_, .inr ⟨c1,T,hx,g,zs,(by first | (rw [e];done) | (rw [e];rfl)),(by rw [e];exact hI11.hl),(by rw [e];exact hor),rfl⟩,hS⟩
  have c3p:=kz c3
  refine Aa ?_
  refine AB (.t3 1 2 4) ?_
  refine AA (Gs (Gt (Ai Jp rfl) (Gt (AG rfl F3 .m1 Az.l0 rfl rfl) ?_)))
  refine Gt (Bp JR (by decide) (aO hor (Kn.IT r0) (Kn.own .m0)) rfl rfl (by omega) (by omega)) ?_
  refine Gt (Dj rfl CX (aO hor (Kn.IT r0) (Kn.own .m0)) (by simp)) ?_
  refine Ga rfl (Gn (.t4 1 2 4 6) (Gs (Gt (Ai Jp rfl) (Gt (AG rfl F3 .m1 Az.l0 rfl rfl) ?_))))
  refine Gt (Sp Tryz.underlying52 E5 rfl rfl (by decide) (by first | omega | (have h1:=Page.HW ((q :: r).getD (0:Int).toNat []);have h2:=hI11.len ((q :: r).getD (0:Int).toNat []) (by simp);simp only [List.length_append,List.length_cons,List.length_nil] at *;omega))) ?_
  refine BF rfl WV (.c rfl .n) .n (B0 _ r (by simp only [List.length_cons] at *;omega)) (fun w hS=>by have h:=(Kn.cut (l:=1) (r:=hx.len) DX (aO hor (Kn.IT r0) (Kn.own .m0)) (by omega) (Nat.le_refl _) (cK hor (VX.of k0) (VX.own .m0))) w hS;rw [show(((q :: r).take hx.len).drop 1)=r from by rw [List.take_of_length_le (by simp only [List.length_cons] at *;omega)];rfl] at h;exact h) (fun v2 B hv=>?_)
  obtain⟨y3,rfl,y4,rfl⟩:=hv
  refine Gt (Ai Jp rfl) ?_
  refine AT (AK Az.l0 rfl rfl rfl OZ rfl (.t (.t .h))) ?_
  refine Gn (.t4 1 2 4 6) (Gs (Gt (Ai Mi rfl) (Gt (AG rfl A2 .m2 Az.l1 rfl rfl) ?_)))
  refine Gt (Av rfl rfl (IntWalk.i64_in _ (by first | omega | (have h1:=Page.HW ((q :: r).getD (0:Int).toNat []);have h2:=hI11.len ((q :: r).getD (0:Int).toNat []) (by simp);simp only [List.length_append,List.length_cons,List.length_nil] at *;omega)))) ?_
  refine Gt (MA rfl rfl) (Gt (Ai Mi rfl) ?_)
  refine AT (AK Az.l1 rfl rfl rfl C6 rfl (.t (.t .h))) ?_
  refine Gn (.t4 1 2 4 6) ?_
  refine BE (N:=9) [0,0,2,6,15,31,63,63,127] mix (by kernel_rfl) rfl ?_
  refine Pf 0 rfl (AZ rfl C5 .m2 (AU.id Az.fl.len Az.fl.one) rfl) (Pf 1 rfl (AF rfl) ?_)
  refine BX 2 rfl rfl (by kernel_rfl) (MD (LJ (D9 de (.c rfl .n) (fun w hS=>Kk _ (hI11.len _ (by simp)) w)))) ?_
  refine Pf 3 rfl (CV rfl rfl (by first | omega | (have h1:=Page.HW ((q :: r).getD (0:Int).toNat []);have h2:=hI11.len ((q :: r).getD (0:Int).toNat []) (by simp);simp only [List.length_append,List.length_cons,List.length_nil] at *;omega))) ?_
  refine BX 4 rfl rfl (by kernel_rfl) (MD (LJ (D9 XW (.c rfl (.c rfl .n)) (fun w hS=>ET _ _ (by first | omega | (have h1:=Page.HW ((q :: r).getD (0:Int).toNat []);have h2:=hI11.len ((q :: r).getD (0:Int).toNat []) (by simp);simp only [List.length_append,List.length_cons,List.length_nil] at *;omega)) w)))) ?_
  refine Pf 5 rfl (AF rfl) (Pf 6 rfl (AN rfl rfl) (Pf 7 rfl (AN rfl rfl) ?_))
  refine An 8 rfl (by kernel_rfl) ?_
  refine AT (AK (AU.id Az.fl.len Az.fl.one) rfl rfl rfl Fz rfl (.t (.t .h))) ?_
  refine BN rfl ⟨?_,?_⟩
  · exact(Po rfl (AN rfl rfl) rfl rfl (Pk (Pk (Pk (Pk (Pk (Pk (Pk As))))))))
  refine A4 (by kernel_rfl) ?_
  refine AB (.t3 1 2 4) ?_
  refine AV ?_
  refine CE (.c .h (.c (.t .h) (.c (.t .h) .n))) ?_
  refine CZ ?_
  refine VN (r) _ _ _ _ (9) _ _ (r) ?_ ?_ (.t3 1 2 4) (.refl _)
  · exact⟨hI11.next hak hct c3 (by assumption) rfl, .inr ⟨rfl,rfl,rfl⟩⟩
  · simp only [List.length_cons];omega
 refine Bb (AW (AW (Ag ?_)))
 refine AB (.t2 2 4) ?_
 refine AA (Gs (Gt (AZ rfl C5 .m1 (AU.id Az.fl.len Az.fl.one) rfl) ?_))
 refine AT (AK (AU.id Az.fl.len Az.fl.one) rfl rfl rfl Fz rfl (.t (.t .h))) ?_
 refine Ga rfl (Gn (.t2 4 5) (Ac ?_))
 refine AY rfl (.cell rfl .m2 (.inl ⟨(by rw [Az.fl.len];exact C5),rfl⟩) (.tmp rfl .n)) ?_
 intro w1 hS
 have hS:=(hS.perm (Ax.perm (.c .h .n))).A1
 have e:=hI11.bT c2
 exact⟨_, .inr ⟨c1,T,hx,g,zs,(by first | (rw [e];done) | (rw [e];rfl)),(by rw [e];exact hI11.hl),(by rw [e];exact hor),rfl⟩,hS⟩
theorem Dt (b:Nat)(V:AM)(ls:Vector BJ 4)(ev:List Ing.Event)(n m:Nat)(hF:AI.Fit (A5 V ls ev) n m)(hn:n≤600000)(hm:m≤600000):FU Tryz.prog 65 #[.pointer (some ⟨b,0,none⟩)] [Ab.box b 101 (AM.enc V),Ab.EB (CR 9 (AM.Au V) ls),Ab.own (AM.last V) 56 16 ((ev).flatMap Ing.Event.enc)] (fun w=>(GV 2 Fp w∧2 ∉ Cg [Ab.box b 101 (AM.enc V),Ab.EB (CR 9 (AM.Au V) ls),Ab.own (AM.last V) 56 16 ((ev).flatMap Ing.Event.enc)])∧(GV 0 AH.DJ w∧0 ∉ Cg [Ab.box b 101 (AM.enc V),Ab.EB (CR 9 (AM.Au V) ls),Ab.own (AM.last V) 56 16 ((ev).flatMap Ing.Event.enc)])∧(Gu 7 w∧7 ∉ Cg [Ab.box b 101 (AM.enc V),Ab.EB (CR 9 (AM.Au V) ls),Ab.own (AM.last V) 56 16 ((ev).flatMap Ing.Event.enc)])∧(Gu 8 w∧8 ∉ Cg [Ab.box b 101 (AM.enc V),Ab.EB (CR 9 (AM.Au V) ls),Ab.own (AM.last V) 56 16 ((ev).flatMap Ing.Event.enc)])) (fun v B=>∃ V' ls' ev',v = .tuple #[]∧A5 V' ls' ev'=AI.BZ (A5 V ls ev)∧B = [Ab.box b 101 (AM.enc V'),Ab.EB (CR 9 (AM.Au V') ls'),Ab.own (AM.last V') 56 16 ((ev').flatMap Ing.Event.enc)]):=by
 intro w hS0 hH
 obtain⟨⟨gl0,gm0⟩,⟨gl1,gm1⟩,⟨gl2,gm2⟩,⟨gl3,gm3⟩⟩:=hH
 refine Ak _ _ Tryz.func65 rfl rfl rfl (hS0) ?_
 refine Gs (Gm rfl (AQ (AA (Ae ?_))))
 refine Bn (.t2 5 0) ?_
 refine Ba (.t (.t .h)) ?_
 refine Ba (.t (.t .h)) ?_
 refine Ba (.t (.t .h)) ?_
 refine Iu (fun(k:Int) (V1:AM) (ls1:Vector BJ 4) (ev1:List Ing.Event)=>0≤k∧k≤5∧(A5 V ls ev).BZ=(A5 V1 ls1 ev1).He (5 - k).toNat∧AI.Fit (A5 V1 ls1 ev1) (n+44 * k.toNat) (m+44 * k.toNat)) (fun(k:Int) (V1:AM) (ls1:Vector BJ 4) (ev1:List Ing.Event)=>(5 - k).toNat) (fun(k:Int) (V1:AM) (ls1:Vector BJ 4) (ev1:List Ing.Event)=> [(5, .int .i64 k)]) (fun(k:Int) (V1:AM) (ls1:Vector BJ 4) (ev1:List Ing.Event)=> [Ab.box b 101 (AM.enc V1),Ab.EB (CR 9 (AM.Au V1) ls1),Ab.own (AM.last V1) 56 16 (ev1.flatMap Ing.Event.enc)]) (0) (V) (ls) (ev) ?_ rfl rfl (fun k V1 ls1 ev1 hI1=>?_)
 · exact⟨by omega,by omega,rfl,hF⟩
 obtain⟨hI11,hI12,hI13,hI14⟩:=hI1
 refine Gs (Gt (A7 rfl rfl) (AQ (AA (Ao ?_))))
 refine Gc (fun c1=>?_) (fun c1=>?_)
 ·
  have c1p:=kz c1
  refine Aa ?_
  refine AB (.t2 0 5) ?_
  refine AA (Ao (Ae (Gs (Ga rfl (AQ (AA (CG ?_)))))))
  refine Gm rfl (AQ (AA (Ae ?_)))
  refine Bn (.t4 2 7 0 5) ?_
  refine Ba (.t (.t .h)) ?_
  refine Ba (.t (.t .h)) ?_
  refine Ba (.t (.t .h)) ?_
  refine R8 (fun(i:Int) (V2:AM) (ls2:Vector BJ 4) (ev2:List Ing.Event) (c:Bool)=>0≤i∧i≤4∧((A5 V2 ls2 ev2),c)=(A5 V1 ls1 ev1).Ch i.toNat) (fun(i:Int) (V2:AM) (ls2:Vector BJ 4) (ev2:List Ing.Event) (c:Bool)=>(4 - i).toNat) (fun(i:Int) (V2:AM) (ls2:Vector BJ 4) (ev2:List Ing.Event) (c:Bool)=> [(2, .bool c),(7, .int .i64 i)]) (fun(i:Int) (V2:AM) (ls2:Vector BJ 4) (ev2:List Ing.Event) (c:Bool)=> [Ab.box b 101 (AM.enc V2),Ab.EB (CR 9 (AM.Au V2) ls2),Ab.own (AM.last V2) 56 16 (ev2.flatMap Ing.Event.enc)]) (0) (V1) (ls1) (ev1) (false) ?_ rfl rfl (fun i V2 ls2 ev2 c hI2=>?_)
  · exact⟨by omega,by omega,rfl⟩
  obtain⟨hI21,hI22,hI23⟩:=hI2
  refine Gs (Gt (A7 rfl rfl) (AQ (AA (Ao ?_))))
  refine Gc (fun c2=>?_) (fun c2=>?_)
  ·
   have c2p:=kz c2
   have hi:0≤i∧i < 4:=⟨by omega,by omega⟩
   have hF2:=QZ hI14 hi.1 (by omega) hI23
   refine Aa ?_
   refine AB (.t4 0 2 5 7) ?_
   refine AA (Ao (Ae (Gs (Gm rfl (Ga rfl (Gn (.t5 0 2 3 5 7) (Gs ?_)))))))
   refine Gm rfl (Gm rfl (Gt (BV rfl) (Gt (Ai HH rfl) ?_)))
   refine Gt (AR Qu rfl rfl (by first | omega | exact hi.1 | exact hi.2) (by first | omega | exact hi.1 | exact hi.2)) ?_
   refine Ga rfl (Gn (.t5 0 2 4 5 7) (CG (Gm rfl (Gt (BV rfl) (Gt (Ai I4 rfl) ?_)))))
   refine Gt (AG rfl A2 .m0 ((AM.l1.comp (AU.ar (n:=4) A3.fl (by first | omega | exact hi))).comp A3.l0) rfl rfl) ?_
   refine Gt (Af rfl rfl) (Gn (.t6 0 2 4 5 7 19) ?_)
   refine Gc (fun c3=>?_) (fun c3=>?_)
   ·
    have c3p:=kz c3
    refine Bb (AW (Ag ?_))
    refine AB (.t4 0 2 5 7) ?_
    refine AA (AJ ?_)
    refine Gt (Av rfl rfl (IntWalk.i64_in _ (by first | omega | exact hi.1 | exact hi.2))) ?_
    refine Gm rfl ?_
    refine AQ (AB (.t4 0 2 5 7) ?_)
    refine J9 (i+1) _ _ _ _ ?_ ?_ (.t4 2 7 0 5) (.refl _)
    · exact⟨by omega,by omega,((Ky hi.1 hi.2 hI23).trans (BB c3)).symm⟩
    · omega
   have c3p:=kz c3
   refine Aa ?_
   refine AB (.t5 0 2 4 5 7) ?_
   refine AA ?_
   refine Ba (.t (.t .h)) ?_
   refine Ba (.t (.t .h)) ?_
   refine Ba (.t (.t .h)) ?_
   refine Qf (Lm:= [_,_,_]) (fun(V3:AM) (ls3:Vector BJ 4)=>(A5 V3 ls3 ev2)=(A5 V2 ls2 ev2).set i ((A5 V2 ls2 ev2).at_ i).BZ) (fun(V3:AM) (ls3:Vector BJ 4)=> []) (fun(V3:AM) (ls3:Vector BJ 4)=> [Ab.box b 101 (AM.enc V3),Ab.EB (CR 9 (AM.Au V3) ls3),Ab.own (AM.last V3) 56 16 (ev2.flatMap Ing.Event.enc)]) (.t5 0 2 4 5 7) rfl ?_ (fun V3 ls3 hC=>?_)
   ·
    refine Ft (k:=i) hi.1 hi.2 (fun sv sl hsv hlv hln=>?_)
    refine BE (N:=17) [0,0,2,6,14,0,32,96,224,480,1022,2046,4094,4094,8191,24575,57343] mix (by kernel_rfl) rfl ?_
    refine Pf 0 rfl (AF rfl) (Pf 1 rfl (AF rfl) (Pf 2 rfl (BV rfl) (Pf 3 rfl (Ai D2 rfl) (Pf 4 rfl (AZ rfl C5 .m3 ((AU.BL V2 hi.1 hi.2).comp A3.l4) rfl) (Pf 5 rfl (AF rfl) (Pf 6 rfl (BV rfl) (Pf 7 rfl (Ai K7 rfl) ?_)))))))
    refine Pf 8 rfl (Ai RA rfl) (Pf 9 rfl (AG rfl A2 .m3 (((AU.BL V2 hi.1 hi.2).comp A3.l2).comp AP.l5) rfl rfl) ?_)
    refine An 10 rfl (by kernel_rfl) ?_
    refine BF rfl dQ (.c rfl (.c rfl .n)) .n (NN _ _ _ (by rw [← hlv];exact XP hF2 hi.1 hi.2)) (fun w hS=>⟨(Kn.own .m1) w hS,(VX.own .m1) w hS⟩) (fun v1 B hv=>?_)
    rcases hv with ⟨y2,rfl,rfl⟩ | ⟨y3,y4,y5,y6,y7,rfl,y8,y9,rfl⟩
    ·
     refine Bq rfl ⟨?_,?_⟩
     · exact(Pk (Pk (Pk (Pk (Pk (Pk (Pk (Pk (Pk (Po rfl (AF rfl) rfl rfl As))))))))))
     refine Pf 11 rfl (AF rfl) (Pf 12 rfl (AN rfl rfl) (Pf 13 rfl (AN rfl rfl) (Pf 14 rfl (BV rfl) (Pf 15 rfl (Ai D2 rfl) ?_))))
     refine An 16 rfl (by kernel_rfl) ?_
     refine AT (AK ((AU.BL V2 hi.1 hi.2).comp A3.l4) rfl rfl rfl Fz rfl (.t (.t (.t .h)))) ?_
     refine BN rfl ⟨?_,?_⟩
     · exact(Pk (Pk (Po rfl (AN rfl rfl) rfl rfl (Pk (Pk (Pk (Pk (Pk (Pk (Pk (Pk (Pk (Pk (Pk (Pk As)))))))))))))))
     refine A4 (by kernel_rfl) ?_
     refine AB (.t5 0 2 4 5 7) ?_
     refine CE (.c .h (.c .h (.c .h (.c .h (.c .h .n))))) ?_
     refine Si hi.1 hi.2 (by rfl) (by rfl) (by rfl) ?_
     refine Eb _ _ ?_ (.t5 0 2 4 5 7) (.refl _)
     · exact Em hi.1 hi.2 hsv hlv (f:=Aw.BZ) (Lp hln.2.1 y2)
    refine Bq rfl ⟨?_,?_⟩
    · exact(Pk (Pk (Pk (Pk (Pk (Pk (Pk (Pk (Pk (Po rfl (AF rfl) rfl rfl As))))))))))
    refine Pf 11 rfl (AF rfl) (Pf 12 rfl (AN rfl rfl) (Pf 13 rfl (AN rfl rfl) (Pf 14 rfl (BV rfl) (Pf 15 rfl (Ai D2 rfl) ?_))))
    refine An 16 rfl (by kernel_rfl) ?_
    refine AT (AK ((AU.BL V2 hi.1 hi.2).comp A3.l4) rfl rfl rfl Fz rfl (.t (.t (.t (.t .h))))) ?_
    refine BN rfl ⟨?_,?_⟩
    · exact(Pk (Pk (Po rfl (AN rfl rfl) rfl rfl (Pk (Pk (Pk (Pk (Pk (Pk (Pk (Pk (Pk (Pk (Pk (Pk As)))))))))))))))
    refine A4 (by kernel_rfl) ?_
    refine AB (.t5 0 2 4 5 7) ?_
    refine CE (.c .h (.c (.t .h) .n)) ?_
    refine cQ y9 ?_
    refine CE (.c (.t .h) (.c .h (.c .h (.c .h (.c .h .n))))) ?_
    refine Si hi.1 hi.2 (by rfl) (by rfl) (by rfl) ?_
    refine Eb _ _ ?_ (.t5 0 2 4 5 7) (.refl _)
    · exact Em hi.1 hi.2 hsv hlv (f:=Aw.BZ) (YR hln.2.1 y3 _)
   refine Gs (Gm rfl (Gt (BV rfl) (Gt (Ai D2 rfl) (Gt (Ai LD rfl) ?_))))
   refine Gt (AG rfl Dn .m0 (((AM.l1.comp (AU.ar (n:=4) A3.fl (by first | omega | exact hi))).comp A3.l4).comp Az.l4) rfl rfl) ?_
   refine Gn (.t6 0 2 4 5 7 40) ?_
   refine Gc (fun c4=>?_) (fun c4=>?_)
   ·
    have c4p:=kz c4
    refine Gs (Gm rfl (Gm rfl ?_))
    refine BF rfl aD (.c rfl (.c rfl .n)) (.c .h (.c .h (.c .h .n))) (IN _ V3 ls3 ev2 i _ _ hi (by rw [hC];exact hF2.XQ hi.1 hi.2) (by omega) (by omega)) (fun w hS=>⟨gl0.pull gm0 hS (.c .h (.c .h (.c .h .n))),gl1.pull gm1 hS (.c .h (.c .h (.c .h .n))),gl2.pull gm2 hS (.c .h (.c .h (.c .h .n))),gl3.pull gm3 hS (.c .h (.c .h (.c .h .n)))⟩) (fun v13 B hv=>?_)
    obtain⟨y14,y15,y16,rfl,y17,rfl⟩:=hv
    refine Gn (.t3 0 5 7) (AJ (Ga rfl (AQ (AV (AA (AJ ?_))))))
    refine Gt (Av rfl rfl (IntWalk.i64_in _ (by first | omega | exact hi.1 | exact hi.2))) ?_
    refine Gm rfl ?_
    refine AQ (AB (.t4 0 2 5 7) ?_)
    refine J9 (i+1) _ _ _ _ ?_ ?_ (.t4 2 7 0 5) (.refl _)
    · exact⟨by omega,by omega,(((Ky hi.1 hi.2 hI23).trans ((AX c3).trans (BB (show _=true from(VC hi.1 hi.2 hC).symm.trans c4)))).trans (by rw [← hC,← y17])).symm⟩
    · omega
   have c4p:=kz c4
   refine Aa ?_
   refine AB (.t4 0 2 5 7) ?_
   refine AV (AA (AJ ?_))
   refine Gt (Av rfl rfl (IntWalk.i64_in _ (by first | omega | exact hi.1 | exact hi.2))) ?_
   refine Gm rfl ?_
   refine AQ (AB (.t4 0 2 5 7) ?_)
   refine J9 (i+1) _ _ _ _ ?_ ?_ (.t4 2 7 0 5) (.refl _)
   · exact⟨by omega,by omega,(((Ky hi.1 hi.2 hI23).trans ((AX c3).trans (AX (show _=false from(VC hi.1 hi.2 hC).symm.trans c4)))).trans (by rw [← hC])).symm⟩
   · omega
  have c2p:=kz c2
  obtain rfl:i=4:=by omega
  have hE:(A5 V1 ls1 ev1).Ch 4=((A5 V2 ls2 ev2),c):=hI23.symm
  refine Bb (AW (AW (Ag ?_)))
  refine AB (.t3 0 2 5) ?_
  refine AA (Gs (Gm rfl (Gt (BT rfl) (Gn (.t3 0 5 46) ?_))))
  refine Gc (fun c5=>?_) (fun c5=>?_)
  ·
   have c5p:=kz c5
   refine Ac (AS (AD (AD (AS ?_))))
   refine AY rfl .n ?_
   intro w1 hS
   have hS:=(hS.perm (Ax.perm (.c .h (.c .h (.c .h .n))))).A1
   refine⟨_,⟨V2,ls2,ev2,rfl,?ga1,rfl⟩,hS⟩
   case ga1=>exact(hI13.trans ((Nv hI11 (by omega)).trans ((BB (show(!((A5 V1 ls1 ev1).Ch 4).2)=true by rw [hE];exact c5)).trans (by rw [hE])))).symm
  have c5p:=kz c5
  refine Aa ?_
  refine AB (.t2 0 5) ?_
  refine AV (AA (AJ ?_))
  refine Gt (Av rfl rfl (IntWalk.i64_in _ (by first | omega | exact hi.1 | exact hi.2))) ?_
  refine Gm rfl ?_
  refine AQ (AB (.t2 0 5) ?_)
  refine DC (k+1) _ _ _ ?_ ?_ (.t2 5 0) (.refl _)
  · exact⟨by omega,by omega,hI13.trans ((Nv hI11 (by omega)).trans ((AX (show(!((A5 V1 ls1 ev1).Ch 4).2)=false by rw [hE];exact c5)).trans (by rw [hE]))),(QZ hI14 (by omega) (by omega) hI23).mono (by omega) (by omega)⟩
  · omega
 have c1p:=kz c1
 refine Bb (AW (AW (Ag ?_)))
 refine Bk rfl .n ?_
 intro w1 hS
 have hS:=(hS.perm (Ax.perm (.c .h (.c .h (.c .h .n))))).A1
 refine⟨_,⟨V1,ls1,ev1,rfl,?ga2,rfl⟩,hS⟩
 case ga2=>exact(hI13.trans (by rw [show(5 - k).toNat=0 by omega];rfl)).symm
theorem PW (b:Nat)(V:AM)(ls:Vector BJ 4)(ev:List Ing.Event)(d:Int)(n m:Nat)(hF:AI.Fit (A5 V ls ev) n m)(hn:n≤500000)(hm:m≤500000):FU Tryz.prog 60 #[.pointer (some ⟨b,0,none⟩), .int .i64 d] [Ab.box b 101 (AM.enc V),Ab.EB (CR 9 (AM.Au V) ls),Ab.own (AM.last V) 56 16 ((ev).flatMap Ing.Event.enc)] (fun w=>(GV 2 Fp w∧2 ∉ Cg [Ab.box b 101 (AM.enc V),Ab.EB (CR 9 (AM.Au V) ls),Ab.own (AM.last V) 56 16 ((ev).flatMap Ing.Event.enc)])∧(GV 0 AH.DJ w∧0 ∉ Cg [Ab.box b 101 (AM.enc V),Ab.EB (CR 9 (AM.Au V) ls),Ab.own (AM.last V) 56 16 ((ev).flatMap Ing.Event.enc)])∧(Gu 7 w∧7 ∉ Cg [Ab.box b 101 (AM.enc V),Ab.EB (CR 9 (AM.Au V) ls),Ab.own (AM.last V) 56 16 ((ev).flatMap Ing.Event.enc)])∧(Gu 8 w∧8 ∉ Cg [Ab.box b 101 (AM.enc V),Ab.EB (CR 9 (AM.Au V) ls),Ab.own (AM.last V) 56 16 ((ev).flatMap Ing.Event.enc)])) (fun v B=>∃ V' ls' ev',v = .tuple #[]∧A5 V' ls' ev'=AI.Of (A5 V ls ev) d∧B = [Ab.box b 101 (AM.enc V'),Ab.EB (CR 9 (AM.Au V') ls'),Ab.own (AM.last V') 56 16 ((ev').flatMap Ing.Event.enc)]):=by
 intro w hS0 hH
 obtain⟨⟨gl0,gm0⟩,⟨gl1,gm1⟩,⟨gl2,gm2⟩,⟨gl3,gm3⟩⟩:=hH
 refine Ak _ _ Tryz.func60 rfl rfl rfl (hS0) ?_
 refine CG (Gm rfl (AQ (AA (Ae ?_))))
 refine Bn (.t3 8 0 1) ?_
 refine Ba (.t (.t .h)) ?_
 refine Ba (.t (.t .h)) ?_
 refine Ba (.t (.t .h)) ?_
 refine Iu (fun(i:Int) (V1:AM) (ls1:Vector BJ 4) (ev1:List Ing.Event)=>0≤i∧i≤4∧(A5 V1 ls1 ev1)=AI.turns (A5 V ls ev) i.toNat) (fun(i:Int) (V1:AM) (ls1:Vector BJ 4) (ev1:List Ing.Event)=>(4 - i).toNat) (fun(i:Int) (V1:AM) (ls1:Vector BJ 4) (ev1:List Ing.Event)=> [(8, .int .i64 i)]) (fun(i:Int) (V1:AM) (ls1:Vector BJ 4) (ev1:List Ing.Event)=> [Ab.box b 101 (AM.enc V1),Ab.EB (CR 9 (AM.Au V1) ls1),Ab.own (AM.last V1) 56 16 (ev1.flatMap Ing.Event.enc)]) (0) (V) (ls) (ev) ?_ rfl rfl (fun i V1 ls1 ev1 hI1=>?_)
 · exact⟨by omega,by omega,rfl⟩
 obtain⟨hI11,hI12,hI13⟩:=hI1
 refine Gs (Gt (A7 rfl rfl) (AQ (AA (Ao ?_))))
 refine Gc (fun c1=>?_) (fun c1=>?_)
 ·
  have c1p:=kz c1
  have hi:0≤i∧i < 4:=⟨by omega,by omega⟩
  refine Aa ?_
  refine AB (.t3 0 1 8) ?_
  refine AA (Ao (Ae (Gs (Gm rfl (Ga rfl (Gn (.t4 0 1 4 8) (AJ ?_)))))))
  refine Gm rfl (Gm rfl (Gm rfl (Gt (BV rfl) (Gt (Ai HH rfl) ?_))))
  refine Gt (AR Qu rfl rfl (by first | omega | exact hi.1 | exact hi.2) (by first | omega | exact hi.1 | exact hi.2)) ?_
  refine BF rfl eP (.c rfl (.c rfl .n)) (.c .h (.c .h (.c .h .n))) (Q0 _ V1 ls1 ev1 i (n+44) (m+44) hi (by rw [hI13];exact(AI.KC hF i.toNat (by omega)).mono (by omega) (by omega)) (by omega) (by omega)) (fun w hS=>⟨gl0.pull gm0 hS (.c .h (.c .h (.c .h .n))),gl1.pull gm1 hS (.c .h (.c .h (.c .h .n))),gl2.pull gm2 hS (.c .h (.c .h (.c .h .n))),gl3.pull gm3 hS (.c .h (.c .h (.c .h .n)))⟩) (fun v1 B hv=>?_)
  obtain⟨y2,y3,y4,rfl,y5,rfl⟩:=hv
  refine AQ (AB (.t3 0 1 8) ?_)
  refine AV (AA (AJ ?_))
  refine Gt (Av rfl rfl (IntWalk.i64_in _ (by first | omega | exact hi.1 | exact hi.2))) ?_
  refine Gm rfl ?_
  refine AQ (AB (.t3 0 1 8) ?_)
  refine DC (i+1) _ _ _ ?_ ?_ (.t3 8 0 1) (.refl _)
  · exact⟨by omega,by omega,y5.trans (by rw [hI13];exact(UE hI11).symm)⟩
  · omega
 have c1p:=kz c1
 obtain rfl:i=4:=by omega
 have hF1:=AI.KC hF 4 (Nat.le_refl 4)
 rw [show(4:Nat)=(4:Int).toNat from rfl,← hI13] at hF1
 have hrl:(AE.CW V1.w d).2.1.length≤78:=AE.QP hF1.Ff.HA d
 have hrs:=AE.Kw (draw:=d) hF1.Ff
 have hF4:=((hF1.land hrs.1).Gx hrs.2).mono (Nat.add_le_add_left hrl _) (Nat.add_le_add_left hrl _)
 refine Bb (AW (AW (Ag ?_)))
 refine AB (.t2 0 1) ?_
 refine AA (Gs (Gm rfl (Gt (BV rfl) (Gt (Ai D6 rfl) (Gt (AZ rfl BW .m0 AM.l0 rfl) (Gm rfl ?_))))))
 refine BF rfl da (.c rfl (.c rfl .n)) .n (MY V1.w d hF1.Ff.HA) (fun w hS=>gl1.pull gm1 hS .n) (fun v6 B hv=>?_)
 obtain⟨y7,rfl,y8,rfl⟩:=hv
 refine Gm rfl (Gt (AN rfl rfl) (Gt (AN rfl rfl) (Gt (AN rfl rfl) ?_)))
 refine BD rfl LU rfl (fun b1=>?_)
 refine AT (AK (AU.id AH.fl.len AH.fl.one) rfl rfl rfl Dz rfl .h) ?_
 refine Ga rfl (Ga rfl (Gn (.t3 0 5 6) (Gs (Gm rfl (Gt (AZ rfl BW .m0 (AU.id AH.fl.len AH.fl.one) rfl) (Gt (BV rfl) (Gt (Ai D6 rfl) ?_)))))))
 refine AT (AK AM.l0 rfl rfl rfl Dz rfl (.t (.t .h))) ?_
 refine Gn (.t2 0 6) (Gs (Gm rfl (Gm rfl ?_)))
 refine BF rfl Vg (.c rfl (.c rfl .n)) (.c (.t (.t .h)) (.c (.t (.t .h)) (.c (.t (.t .h)) (.c (.t .h) .n)))) (Ep _ { V1 with w:=(AE.CW V1.w d).1 } ls1 ev1 _ (AE.CW V1.w d).2.1 _ (by assumption) (GX hF1) (by omega) (Nat.le_trans hF1.last (by omega)) (fun e he c _=>hrs.2 e he)) (fun w hS=>⟨gl0.pull gm0 hS (.c (.t (.t .h)) (.c (.t (.t .h)) (.c (.t (.t .h)) (.c (.t .h) .n)))),gl1.pull gm1 hS (.c (.t (.t .h)) (.c (.t (.t .h)) (.c (.t (.t .h)) (.c (.t .h) .n))))⟩) (fun v10 B hv=>?_)
 obtain⟨y11,y12,y13,rfl,y14,rfl⟩:=hv
 refine Gn (.t1 0) (AJ (Gm rfl ?_))
 refine BF rfl SX (.c rfl .n) (.c .h (.c .h (.c .h .n))) (Dt _ y11 y12 y13 _ _ (by rw [y14];exact hF4) (by omega) (by omega)) (fun w hS=>⟨gl0.pull gm0 hS (.c .h (.c .h (.c .h .n))),gl1.pull gm1 hS (.c .h (.c .h (.c .h .n))),gl2.pull gm2 hS (.c .h (.c .h (.c .h .n))),gl3.pull gm3 hS (.c .h (.c .h (.c .h .n)))⟩) (fun v15 B hv=>?_)
 obtain⟨y16,y17,y18,rfl,y19,rfl⟩:=hv
 refine AQ ?_
 refine Bk rfl .n ?_
 intro w1 hS
 have hS:=(hS.perm (Ax.perm (.c .h (.c .h (.c .h .n))))).A1
 refine⟨_,⟨y16,y17,y18,rfl,?ga1,rfl⟩,hS⟩
 case ga1=>rw [y19,y14,Om];show AI.BZ (AI.Gx { (A5 V1 ls1 ev1) with w:=(AE.CW ((A5 V1 ls1 ev1)).w d).1 } (AE.CW ((A5 V1 ls1 ev1)).w d).2.1)=_;rw [hI13];rfl
theorem Fl (opt:Int)(w:World):Ed Tryz.prog 73 #[.int .i64 opt] w fun v w'=>v = .tuple #[.int .i64 (AP.place opt).1, .bool (AP.place opt).2.1, .bool (AP.place opt).2.2]∧CA w w':=by
 refine Ak [] [] Tryz.func73 rfl rfl rfl (St.start w []) ?_
 refine Gs (Ga rfl (Ga rfl (Ga rfl (Gn (.t1 0) (CG (Gm rfl (Gn (.t1 5) ?_)))))))
 refine Ae (Gs (Gt (Af rfl rfl) (Ga rfl (Gn (.t2 5 6) ?_))))
 refine Gc (fun c1=>?_) (fun c1=>?_)
 ·
  refine Gs (Ga rfl (Ga rfl (Ga rfl (Gn (.t3 2 3 4) (Ac (AS (AD ?_)))))))
  refine AY rfl (.tmp rfl (.tmp rfl (.tmp rfl .n))) ?_
  intro w1 hS;refine⟨?_,hS.Am⟩;simp only [AP.place,c1,↓reduceIte,Bool.false_eq_true];rfl
 refine Gs (Gt (Af rfl rfl) (Ga rfl (Gn (.t2 5 8) ?_)))
 refine Gc (fun c2=>?_) (fun c2=>?_)
 ·
  refine Gs (Ga rfl (Ga rfl (Ga rfl (Gn (.t3 2 3 4) (Ac (AS (AD ?_)))))))
  refine AY rfl (.tmp rfl (.tmp rfl (.tmp rfl .n))) ?_
  intro w1 hS;refine⟨?_,hS.Am⟩;simp only [AP.place,c1,c2,↓reduceIte,Bool.false_eq_true];rfl
 refine Gs (Gt (Af rfl rfl) (Ga rfl (Gn (.t1 10) ?_)))
 refine Gc (fun c3=>?_) (fun c3=>?_)
 ·
  refine Gs (Ga rfl (Ga rfl (Ga rfl (Gn (.t3 2 3 4) (Ac (AS (AD ?_)))))))
  refine AY rfl (.tmp rfl (.tmp rfl (.tmp rfl .n))) ?_
  intro w1 hS;refine⟨?_,hS.Am⟩;simp only [AP.place,c1,c2,c3,↓reduceIte,Bool.false_eq_true];rfl
 refine Aa ?_
 refine AB (.nil _) ?_
 refine AV (AA (Gs (Ga rfl (Ga rfl (Ga rfl (AQ (AA ?_)))))))
 refine Ac ?_
 refine AY rfl (.tmp rfl (.tmp rfl (.tmp rfl .n))) ?_
 intro w1 hS;refine⟨?_,hS.Am⟩;simp only [AP.place,c1,c2,c3,↓reduceIte,Bool.false_eq_true];rfl
theorem GJ (X:AP)(w:World):Ed Tryz.prog 55 #[.agg X.enc.toArray] w fun v w'=>v = .bool X.Bh∧CA w w':=by
 refine Ak [] [] Tryz.func55 rfl rfl rfl (St.start w []) ?_
 refine Gs ?_
 refine B6 rfl rfl rfl (fun b1=>?_)
 refine Ga rfl (Gn (.t1 1) (CG (Gm rfl (AQ (AA (Ae ?_))))))
 refine Bn (.t2 4 1) ?_
 refine CY (fun(k:Int)=>0≤k∧k≤3∧X.Bh=(B8 3 (fun i=>!X.O2 i) (3 - k).toNat && (!(!decide (X.us.at 2=0) || !decide (X.Gq.at 0=0)) && X.QF))) (fun(k:Int)=>(3 - k).toNat) (fun(k:Int)=> [(4, .int .i64 k)]) (fun(k:Int)=> []) (0) ?_ rfl rfl (fun k hI1=>?_)
 · exact⟨Int.le_refl _,by omega,rfl⟩
 obtain⟨hI11,hI12,hI13⟩:=hI1
 refine Gs (Gt (A7 rfl rfl) (AQ (AA (Ao ?_))))
 refine Gc (fun c1=>?_) (fun c1=>?_)
 ·
  have c1p:=kz c1
  rw [DZ _ (by omega)] at hI13
  refine Aa ?_
  refine AB (.t2 1 4) ?_
  refine AA (Ao (Ae (Gs (Gm rfl (Ga rfl (Gn (.t3 1 3 4) (Gs ?_)))))))
  refine Gm rfl (Gt (Ai Ks rfl) ?_)
  refine Gt (AR Kr rfl rfl (by omega) (by omega)) ?_
  refine Gt (AG rfl A2 .m0 (AP.l3.comp (AU.ar (n:=3) Bu (by omega))) rfl rfl) ?_
  refine Gt (A7 rfl rfl) (Gm rfl (Bg 12 rfl rfl (fun q=>AF rfl) (Bg 12 rfl rfl (fun q=>Ai Ks rfl) ?_)))
  refine Bg 12 rfl rfl (fun q=>by have q1:=q;(try simp at q1);exact AR Kr (cF rfl q) (cF rfl q) (by omega) (by omega)) ?_
  refine Bg 12 rfl rfl (fun q=>by have q1:=q;(try simp at q1);exact AG (cF rfl q) A2 .m0 (AP.l3.comp (AU.ar (n:=3) Bu (by omega))) rfl rfl) ?_
  refine Bg 12 rfl rfl (fun q=>Cn (cF rfl q) rfl) ?_
  refine Gt (BS rfl rfl (fun h=>by rw [h];rfl)) ?_
  refine Gm rfl (Bg 19 rfl rfl (fun q=>AF rfl) (Bg 19 rfl rfl (fun q=>Ai Jx rfl) ?_))
  refine Bg 19 rfl rfl (fun q=>by have q1:=q;(try simp at q1);exact AR Kr (cF rfl q) (cF rfl q) (by omega) (by omega)) ?_
  refine Bg 19 rfl rfl (fun q=>by have q1:=q;(try simp at q1);exact AG (cF rfl q) A2 .m0 (AP.l4.comp (AU.ar (n:=3) Bu (by omega))) rfl rfl) ?_
  refine Bg 19 rfl rfl (fun q=>A7 (cF rfl q) rfl) ?_
  refine Gt (BS rfl rfl (fun h=>by rw [h];rfl)) ?_
  refine Gm rfl (Bg 26 rfl rfl (fun q=>AF rfl) (Bg 26 rfl rfl (fun q=>Ai Jx rfl) ?_))
  refine Bg 26 rfl rfl (fun q=>by have q1:=q;(try simp at q1);exact AR Kr (cF rfl q) (cF rfl q) (by omega) (by omega)) ?_
  refine Bg 26 rfl rfl (fun q=>by have q1:=q;(try simp at q1);exact AG (cF rfl q) A2 .m0 (AP.l4.comp (AU.ar (n:=3) Bu (by omega))) rfl rfl) ?_
  refine Bg 26 rfl rfl (fun q=>Cn (cF rfl q) rfl) ?_
  refine Gt (BS rfl rfl (fun h=>by rw [h];rfl)) ?_
  refine Gn (.t3 1 4 32) ?_
  refine Gc (fun c2=>?_) (fun c2=>?_)
  ·
   refine Gs (Ga rfl (Gn (.t1 2) (Ac (AS (AD (AD (AS ?_)))))))
   refine AD ?_
   refine AY rfl (.tmp rfl .n) ?_
   intro w1 hS;refine⟨congrArg Value.bool ?_,hS.Am⟩;rw [hI13,AP.O2,c2];rfl
  have c2p:=kz c2
  refine Aa ?_
  refine AB (.t2 1 4) ?_
  refine AV (AA (AJ ?_))
  refine Gt (Av rfl rfl (IntWalk.i64_in _ (by omega))) ?_
  refine Gm rfl ?_
  refine AQ (AB (.t2 1 4) ?_)
  refine B2 (k+1) ?_ ?_ (.t2 4 1) (.refl _)
  · exact⟨by omega,by omega,by rw [hI13,AP.O2,c2];rfl⟩
  · omega
 have c1p:=kz c1
 obtain rfl:k=3:=by omega
 refine Bb (AW (AW (Ag ?_)))
 refine AB (.t1 1) ?_
 refine AA (CG (Gt (Ai Ks rfl) ?_))
 refine Gt (AR Kr rfl rfl (by decide) (by decide)) ?_
 refine Gt (AG rfl A2 .m0 (AP.l3.comp (AU.arr (n:=3) Bu (by decide) (by decide))) rfl rfl) ?_
 refine Gt (Cb rfl rfl) (Gm rfl (Bg 38 rfl rfl (fun q=>Ai Jx rfl) ?_))
 refine Bg 38 rfl rfl (fun q=>AR Kr (cF rfl q) rfl (by decide) (by decide)) ?_
 refine Bg 38 rfl rfl (fun q=>AG (cF rfl q) A2 .m0 (AP.l4.comp (AU.arr (n:=3) Bu (by decide) (by decide))) rfl rfl) ?_
 refine Bg 38 rfl rfl (fun q=>Cb (cF rfl q) rfl) ?_
 refine Gt (BS rfl rfl (fun h=>by rw [h];rfl)) ?_
 refine Gn (.t2 1 43) ?_
 refine Gc (fun c3=>?_) (fun c3=>?_)
 ·
  refine Gs (Ga rfl (Gn (.t1 2) (Ac (AD ?_))))
  refine AY rfl (.tmp rfl .n) ?_
  intro w1 hS;refine⟨congrArg Value.bool ?_,hS.Am⟩;rw [hI13,c3];rfl
 refine Aa ?_
 refine AB (.t1 1) ?_
 refine AA (Gs (Gt (Ai Fm rfl) (Gt (AG rfl A2 .m0 AP.l0 rfl rfl) (Gt (CK rfl rfl) (Gm rfl (Bf 47 rfl rfl (fun q=>Ai Fm rfl) (Bf 47 rfl rfl (fun q=>AG (Bc rfl q) A2 .m0 AP.l0 rfl rfl) ?_)))))))
 refine Bf 47 rfl rfl (fun q=>IG (Bc rfl q) rfl) (Gt (BG rfl rfl (fun h=>h)) (Gm rfl (Bf 52 rfl rfl (fun q=>Ai Fm rfl) (Bf 52 rfl rfl (fun q=>AG (Bc rfl q) A2 .m0 AP.l0 rfl rfl) (Bf 52 rfl rfl (fun q=>Af (Bc rfl q) rfl) (Bf 52 rfl rfl (fun q=>Ai Ko rfl) (Bf 52 rfl rfl (fun q=>AG (Bc rfl q) A2 .m0 AP.l1 rfl rfl) ?_)))))))
 refine Bf 52 rfl rfl (fun q=>Cb (Bc rfl q) rfl) (Bf 52 rfl rfl (fun q=>Jb Tryz.underlying4 (Bc rfl q) (Bc rfl q)) (Gt (BG rfl rfl (fun h=>h)) (Gm rfl (Bf 61 rfl rfl (fun q=>Ai Ko rfl) (Bf 61 rfl rfl (fun q=>AG (Bc rfl q) A2 .m0 AP.l1 rfl rfl) (Bf 61 rfl rfl (fun q=>Af (Bc rfl q) rfl) (Bf 61 rfl rfl (fun q=>AF (Bc rfl q)) ?_)))))))
 refine Cl (t:=65) rfl rfl rfl (fun qc q=>Ai Ko rfl) ?_
 refine Cl (t:=65) rfl rfl rfl (fun qc q=>AG (Bc rfl (by rw [qc,q];rfl)) A2 .m0 AP.l1 rfl rfl) ?_
 refine Cl (t:=65) rfl rfl rfl (fun qc q=>CK (Bc rfl (by rw [qc,q];rfl)) rfl) ?_
 refine Cl (t:=65) rfl rfl rfl (fun qc q=>AF (Bc rfl (by rw [qc,q];rfl))) ?_
 refine DR (t:=69) rfl rfl rfl (fun qc q=>Ai Ko rfl) ?_
 refine DR (t:=69) rfl rfl rfl (fun qc q=>AG (Bc rfl (by rw [qc,q];rfl)) A2 .m0 AP.l1 rfl rfl) ?_
 refine DR (t:=69) rfl rfl rfl (fun qc q=>IG (Bc rfl (by rw [qc,q];rfl)) rfl) ?_
 refine Cl (t:=65) rfl rfl rfl (fun qc q=>BG (Bc rfl (by rw [qc,q];rfl)) rfl (fun h=>by rw [qc,q,h];rfl)) ?_
 refine Bf 61 rfl rfl (fun q=>BS (Bc rfl q) rfl (fun h=>by rw [q,h];rfl)) ?_
 refine Gt (BG rfl rfl (fun h=>h)) (Gm rfl (Bf 76 rfl rfl (fun q=>Ai G2 rfl) (Bf 76 rfl rfl (fun q=>AG (Bc rfl q) CX .m0 AP.l2 rfl rfl) (Bf 76 rfl rfl (fun q=>BI rfl Tryz.underlying9 (Bc rfl q)) (Bf 76 rfl rfl (fun q=>IG (Bc rfl q) rfl) (Gt (BG rfl rfl (fun h=>h)) (Gm rfl ?_)))))))
 refine Bf 82 rfl rfl (fun q=>Ai Fm rfl) (Bf 82 rfl rfl (fun q=>AG (Bc rfl q) A2 .m0 AP.l0 rfl rfl) (Bf 82 rfl rfl (fun q=>CK (Bc rfl q) rfl) (Bf 82 rfl rfl (fun q=>AF (Bc rfl q)) ?_)))
 refine Cl (t:=86) rfl rfl rfl (fun qc q=>Ai G2 rfl) ?_
 refine Cl (t:=86) rfl rfl rfl (fun qc q=>AG (Bc rfl (by rw [qc,q];rfl)) CX .m0 AP.l2 rfl rfl) ?_
 refine Cl (t:=86) rfl rfl rfl (fun qc q=>Bw (Bc rfl (by rw [qc,q];rfl)) rfl) ?_
 refine Bf 82 rfl rfl (fun q=>BS (Bc rfl q) rfl (fun h=>by rw [q,h];rfl)) ?_
 refine Gt (BG rfl rfl (fun h=>h)) (Gm rfl (Bf 92 rfl rfl (fun q=>Ai RA rfl) (Bf 92 rfl rfl (fun q=>AG (Bc rfl q) A2 .m0 AP.l5 rfl rfl) (Bf 92 rfl rfl (fun q=>CK (Bc rfl q) rfl) (Gt (BG rfl rfl (fun h=>h)) (Gm rfl (Bf 97 rfl rfl (fun q=>Ai RA rfl) ?_)))))))
 refine Bf 97 rfl rfl (fun q=>AG (Bc rfl q) A2 .m0 AP.l5 rfl rfl) (Bf 97 rfl rfl (fun q=>IG (Bc rfl q) rfl) (Gt (BG rfl rfl (fun h=>h)) (Ga rfl (Gn (.t1 2) (Ac ?_)))))
 refine AY rfl (.tmp rfl .n) ?_
 intro w1 hS;refine⟨congrArg Value.bool ?_,hS.Am⟩;rw [hI13,c3];rfl
theorem C3 (verb opt:Int)(h0:0≤verb∧verb≤255)(h1:0≤opt∧opt≤255)(w:World):Ed Tryz.prog 74 #[.int .i64 verb, .int .i64 opt] w fun v w'=>v=BU (AP.WZ verb opt)∧CA w w':=by
 refine Ak [] [] Tryz.func74 rfl rfl rfl (St.start w []) ?_
 refine Gs (Ga rfl (Gn (.t2 0 1) (Gs (Gm rfl ?_))))
 refine Gt (O6 Tryz.underlying5 Tryz.underlying3 rfl (IntWalk.u8_in _ (by omega))) ?_
 refine Gm rfl ?_
 refine Gt (O6 Tryz.underlying5 Tryz.underlying3 rfl (IntWalk.u8_in _ (by omega))) ?_
 refine Wa (cs:=Bx (n:=3) an (Vector.replicate 3 default)) rfl Tryz.underlying105 VY aE (by decide) (by decide) (by kernel_rfl) (.cons (AU.arr (n:=3) (i:=0) dL (by decide) (by decide)) rfl rfl rfl (.cons (AU.arr (n:=3) (i:=1) dL (by decide) (by decide)) rfl rfl rfl (.cons (AU.arr (n:=3) (i:=2) dL (by decide) (by decide)) rfl rfl rfl .nil))) ((HL dL).len _) (fun b1=>?_)
 refine Gt (PG (s:=AP.WZ verb opt) (by rw [show(AP.WZ verb opt).flatMap DT = [.int .u8 255, .int .u8 verb, .int .u8 opt] from by simp [AP.WZ,DT,S1 h0.1 h0.2,S1 h1.1 h1.2]];rfl) Tryz.underlying105 Tryz.underlying9 Tryz.underlying5 rfl (Kn.own .m0)) ?_
 refine Ga rfl (Gn (.t1 4) (Ac ?_))
 refine AY rfl (.tmp rfl .n) ?_
 intro w1 hS;refine⟨?_,hS.Am⟩;rfl
theorem L7 (X:AP)(opt:Int)(w:World):Ed Tryz.prog 80 #[.agg X.enc.toArray, .int .i64 opt] w fun v w'=>v = .tuple #[.agg (X.DP opt).1.enc.toArray,BU (X.DP opt).2.1, .int .i64 (X.DP opt).2.2]∧CA w w':=by
 refine Ak [] [] Tryz.func80 rfl rfl rfl (St.start w []) ?_
 refine Gs ?_
 refine B6 rfl rfl rfl (fun b1=>?_)
 refine BD rfl aU rfl (fun b2=>?_)
 refine Ga rfl (Ga rfl (Gn (.t3 1 2 4) (Gs (Gm rfl ?_))))
 refine BA rfl aH (.c rfl .n) (fun w hS=>Fl _ w) ?_
 refine Gm rfl (Gt (AN rfl rfl) (Gt (AN rfl rfl) (Gt (AN rfl rfl) (Ga rfl (Ga rfl (Ga rfl (Gn (.t5 1 2 4 7 8) ?_)))))))
 refine Ao (Ae (Gs (Gt (AZ rfl D5 .m1 (AU.id AP.fl.len AP.fl.one) rfl) ?_)))
 refine BA rfl aS (.c rfl .n) (fun w hS=>GJ _ w) ?_
 refine Gt (BT rfl) (Ga rfl (Gn (.t6 1 2 4 7 8 16) ?_))
 refine Gc (fun c1=>?_) (fun c1=>?_)
 ·
  refine Gs (Gt (AZ rfl D5 .m1 (AU.id AP.fl.len AP.fl.one) rfl) ?_)
  refine AT (AK (AU.id AP.fl.len AP.fl.one) rfl rfl rfl KT rfl .h) ?_
  refine Ga rfl (Ga rfl (Gn (.t3 4 5 6) (Ac (AS (AD ?_)))))
  refine AY rfl (.cell rfl .m0 (.inl ⟨(by rw [AP.fl.len];exact D5),rfl⟩) (.tmp rfl (.tmp rfl .n))) ?_
  intro w1 hS;refine⟨?_,hS.Am⟩;simp only [AP.DP,c1,↓reduceIte,Bool.false_eq_true];rfl
 have c1p:=kz c1
 refine Gs (Gm rfl (Gt (BT rfl) (Ga rfl (Gn (.t5 1 2 4 7 21) ?_))))
 refine Gc (fun c2=>?_) (fun c2=>?_)
 ·
  refine Gs (Gt (AZ rfl D5 .m1 (AU.id AP.fl.len AP.fl.one) rfl) ?_)
  refine AT (AK (AU.id AP.fl.len AP.fl.one) rfl rfl rfl KT rfl .h) ?_
  refine Ga rfl (Ga rfl (Gn (.t3 4 5 6) (Ac (AS (AD ?_)))))
  refine AY rfl (.cell rfl .m0 (.inl ⟨(by rw [AP.fl.len];exact D5),rfl⟩) (.tmp rfl (.tmp rfl .n))) ?_
  intro w1 hS;refine⟨?_,hS.Am⟩;simp only [AP.DP,c1,c2,↓reduceIte,Bool.false_eq_true];rfl
 have c2p:=kz c2
 have hk:=AP.Ng (opt:=opt) (by simpa using c2)
 have hk1:0≤(AP.place opt).1∧(AP.place opt).1 < 3:=by rcases hk with ⟨_,e⟩ | ⟨_,e⟩<;>rw [e]<;>decide
 have ho:0≤opt∧opt≤255:=by rcases hk with ⟨e,_⟩ | ⟨e,_⟩<;>omega
 refine Gs (Gm rfl (Gt (Ai Ks rfl) ?_))
 refine Gt (AR Kr rfl rfl (by omega) (by omega)) ?_
 refine Gt (AG rfl A2 .m1 (AP.l3.comp (AU.ar (n:=3) Bu (by omega))) rfl rfl) ?_
 refine Gt (Cb rfl rfl) (Ga rfl (Gn (.t5 1 2 4 7 25) ?_))
 refine Gc (fun c3=>?_) (fun c3=>?_)
 ·
  refine Gs (Gt (AZ rfl D5 .m1 (AU.id AP.fl.len AP.fl.one) rfl) ?_)
  refine AT (AK (AU.id AP.fl.len AP.fl.one) rfl rfl rfl KT rfl .h) ?_
  refine Ga rfl (Ga rfl (Gn (.t3 4 5 6) (Ac (AS (AD ?_)))))
  refine AY rfl (.cell rfl .m0 (.inl ⟨(by rw [AP.fl.len];exact D5),rfl⟩) (.tmp rfl (.tmp rfl .n))) ?_
  intro w1 hS;refine⟨?_,hS.Am⟩;simp only [AP.DP,c1,c2,c3,↓reduceIte,Bool.false_eq_true];rfl
 have c3p:=kz c3
 refine Aa ?_
 refine AB (.t4 1 2 4 7) ?_
 refine AV (AA (Gs (Gm rfl (Gt (Ai Ks rfl) ?_))))
 refine Gt (AR Kr rfl rfl (by omega) (by omega)) ?_
 refine AT (AK (AP.l3.comp (AU.ar (n:=3) Bu (by omega))) rfl rfl rfl C6 rfl (.t .h)) ?_
 refine Gn (.t3 1 2 4) (Ao ?_)
 refine BE (N:=6) [0,0,2,7,15,31] mix (by kernel_rfl) rfl ?_
 refine Pf 0 rfl (AZ rfl D5 .m1 (AU.id AP.fl.len AP.fl.one) rfl) (Pf 1 rfl (AF rfl) ?_)
 refine BX 2 rfl rfl (by kernel_rfl) (MD (LJ (D9 SQ (.c rfl (.c rfl .n)) (fun w hS=>C3 _ _ (by first | assumption | omega) (by first | assumption | omega) w)))) ?_
 refine An 3 rfl (by kernel_rfl) ?_
 refine AT (AK (AU.id AP.fl.len AP.fl.one) rfl rfl rfl KT rfl .h) ?_
 refine BN rfl ⟨?_,?_⟩
 · exact(Pk (Pk (Pk As)))
 refine Pf 4 rfl (A0 rfl) (Pf 5 rfl (A0 rfl) ?_)
 refine A4 (by kernel_rfl) ?_
 refine AB (.t3 4 5 6) ?_
 refine AA (Ac ?_)
 refine AY rfl (.cell rfl .m0 (.inl ⟨(by rw [AP.fl.len];exact D5),rfl⟩) (.tmp rfl (.tmp rfl .n))) ?_
 intro w1 hS;refine⟨?_,hS.Am⟩;simp only [AP.DP,c1,c2,c3,↓reduceIte,Bool.false_eq_true];rfl
theorem NG (X:AP)(opt:Int)(w:World):Ed Tryz.prog 81 #[.agg X.enc.toArray, .int .i64 opt] w fun v w'=>v = .tuple #[.agg (X.Ask opt).1.enc.toArray,BU (X.Ask opt).2.1, .int .i64 (X.Ask opt).2.2]∧CA w w':=by
 refine Ak [] [] Tryz.func81 rfl rfl rfl (St.start w []) ?_
 refine Gs ?_
 refine B6 rfl rfl rfl (fun b1=>?_)
 refine BD rfl aU rfl (fun b2=>?_)
 refine Ga rfl (Ga rfl (Gn (.t3 1 2 4) (Gs (Gm rfl ?_))))
 refine BA rfl aH (.c rfl .n) (fun w hS=>Fl _ w) ?_
 refine Gm rfl (Gt (AN rfl rfl) (Gt (AN rfl rfl) (Gt (AN rfl rfl) (Ga rfl (Ga rfl (Ga rfl (Gn (.t5 1 2 4 7 9) ?_)))))))
 refine Ao (Ae (Gs (Gt (AZ rfl D5 .m1 (AU.id AP.fl.len AP.fl.one) rfl) ?_)))
 refine BA rfl aS (.c rfl .n) (fun w hS=>GJ _ w) ?_
 refine Gt (BT rfl) (Ga rfl (Gn (.t6 1 2 4 7 9 16) ?_))
 refine Gc (fun c1=>?_) (fun c1=>?_)
 ·
  refine Gs (Gt (AZ rfl D5 .m1 (AU.id AP.fl.len AP.fl.one) rfl) ?_)
  refine AT (AK (AU.id AP.fl.len AP.fl.one) rfl rfl rfl KT rfl .h) ?_
  refine Ga rfl (Ga rfl (Gn (.t3 4 5 6) (Ac (AS (AD ?_)))))
  refine AY rfl (.cell rfl .m0 (.inl ⟨(by rw [AP.fl.len];exact D5),rfl⟩) (.tmp rfl (.tmp rfl .n))) ?_
  intro w1 hS;refine⟨?_,hS.Am⟩;simp only [AP.Ask,c1,↓reduceIte,Bool.false_eq_true];rfl
 have c1p:=kz c1
 refine Gs (Gm rfl (Gt (BT rfl) (Ga rfl (Gn (.t5 1 2 4 7 21) ?_))))
 refine Gc (fun c2=>?_) (fun c2=>?_)
 ·
  refine Gs (Gt (AZ rfl D5 .m1 (AU.id AP.fl.len AP.fl.one) rfl) ?_)
  refine AT (AK (AU.id AP.fl.len AP.fl.one) rfl rfl rfl KT rfl .h) ?_
  refine Ga rfl (Ga rfl (Gn (.t3 4 5 6) (Ac (AS (AD ?_)))))
  refine AY rfl (.cell rfl .m0 (.inl ⟨(by rw [AP.fl.len];exact D5),rfl⟩) (.tmp rfl (.tmp rfl .n))) ?_
  intro w1 hS;refine⟨?_,hS.Am⟩;simp only [AP.Ask,c1,c2,↓reduceIte,Bool.false_eq_true];rfl
 have c2p:=kz c2
 have hk:=AP.LA (opt:=opt) (by simpa using c2)
 have hk1:0≤(AP.place opt).1∧(AP.place opt).1 < 3:=by rcases hk with ⟨_,e⟩ | ⟨_,e⟩<;>rw [e]<;>decide
 have ho:0≤opt∧opt≤255:=by rcases hk with ⟨e,_⟩ | ⟨e,_⟩<;>omega
 refine Gs (Gm rfl (Gt (Ai Jx rfl) ?_))
 refine Gt (AR Kr rfl rfl (by omega) (by omega)) ?_
 refine Gt (AG rfl A2 .m1 (AP.l4.comp (AU.ar (n:=3) Bu (by omega))) rfl rfl) ?_
 refine Gt (Cb rfl rfl) (Ga rfl (Gn (.t5 1 2 4 7 25) ?_))
 refine Gc (fun c3=>?_) (fun c3=>?_)
 ·
  refine Gs (Gt (AZ rfl D5 .m1 (AU.id AP.fl.len AP.fl.one) rfl) ?_)
  refine AT (AK (AU.id AP.fl.len AP.fl.one) rfl rfl rfl KT rfl .h) ?_
  refine Ga rfl (Ga rfl (Gn (.t3 4 5 6) (Ac (AS (AD ?_)))))
  refine AY rfl (.cell rfl .m0 (.inl ⟨(by rw [AP.fl.len];exact D5),rfl⟩) (.tmp rfl (.tmp rfl .n))) ?_
  intro w1 hS;refine⟨?_,hS.Am⟩;simp only [AP.Ask,c1,c2,c3,↓reduceIte,Bool.false_eq_true];rfl
 have c3p:=kz c3
 refine Aa ?_
 refine AB (.t4 1 2 4 7) ?_
 refine AV (AA (Gs (Gm rfl (Gt (Ai Jx rfl) ?_))))
 refine Gt (AR Kr rfl rfl (by omega) (by omega)) ?_
 refine AT (AK (AP.l4.comp (AU.ar (n:=3) Bu (by omega))) rfl rfl rfl C6 rfl (.t .h)) ?_
 refine Gn (.t3 1 2 4) (Ao ?_)
 refine BE (N:=6) [0,0,2,7,15,31] mix (by kernel_rfl) rfl ?_
 refine Pf 0 rfl (AZ rfl D5 .m1 (AU.id AP.fl.len AP.fl.one) rfl) (Pf 1 rfl (AF rfl) ?_)
 refine BX 2 rfl rfl (by kernel_rfl) (MD (LJ (D9 SQ (.c rfl (.c rfl .n)) (fun w hS=>C3 _ _ (by first | assumption | omega) (by first | assumption | omega) w)))) ?_
 refine An 3 rfl (by kernel_rfl) ?_
 refine AT (AK (AU.id AP.fl.len AP.fl.one) rfl rfl rfl KT rfl .h) ?_
 refine BN rfl ⟨?_,?_⟩
 · exact(Pk (Pk (Pk As)))
 refine Pf 4 rfl (A0 rfl) (Pf 5 rfl (A0 rfl) ?_)
 refine A4 (by kernel_rfl) ?_
 refine AB (.t3 4 5 6) ?_
 refine AA (Ac ?_)
 refine AY rfl (.cell rfl .m0 (.inl ⟨(by rw [AP.fl.len];exact D5),rfl⟩) (.tmp rfl (.tmp rfl .n))) ?_
 intro w1 hS;refine⟨?_,hS.Am⟩;simp only [AP.Ask,c1,c2,c3,↓reduceIte,Bool.false_eq_true];rfl
theorem RQ (b:Nat)(V:AM)(ls:Vector BJ 4)(ev:List Ing.Event)(k:Int)(n m:Nat)(hk:0≤k∧k < 4)(hF:AI.Fit (A5 V ls ev) n m)(hn:n≤500000)(hm:m≤500000):FU Tryz.prog 61 #[.pointer (some ⟨b,0,none⟩), .pointer (some ⟨b,165+k.toNat * 22,none⟩)] [Ab.box b 101 (AM.enc V),Ab.EB (CR 9 (AM.Au V) ls),Ab.own (AM.last V) 56 16 ((ev).flatMap Ing.Event.enc)] (fun w=>(GV 2 Fp w∧2 ∉ Cg [Ab.box b 101 (AM.enc V),Ab.EB (CR 9 (AM.Au V) ls),Ab.own (AM.last V) 56 16 ((ev).flatMap Ing.Event.enc)])∧(GV 0 AH.DJ w∧0 ∉ Cg [Ab.box b 101 (AM.enc V),Ab.EB (CR 9 (AM.Au V) ls),Ab.own (AM.last V) 56 16 ((ev).flatMap Ing.Event.enc)])∧(Gu 7 w∧7 ∉ Cg [Ab.box b 101 (AM.enc V),Ab.EB (CR 9 (AM.Au V) ls),Ab.own (AM.last V) 56 16 ((ev).flatMap Ing.Event.enc)])∧(Gu 8 w∧8 ∉ Cg [Ab.box b 101 (AM.enc V),Ab.EB (CR 9 (AM.Au V) ls),Ab.own (AM.last V) 56 16 ((ev).flatMap Ing.Event.enc)])) (fun v B=>∃ V' ls' ev',v = .tuple #[]∧A5 V' ls' ev'=AI.Jg (A5 V ls ev) k∧B = [Ab.box b 101 (AM.enc V'),Ab.EB (CR 9 (AM.Au V') ls'),Ab.own (AM.last V') 56 16 ((ev').flatMap Ing.Event.enc)]):=by
 intro w hS0 hH
 obtain⟨⟨gl0,gm0⟩,⟨gl1,gm1⟩,⟨gl2,gm2⟩,⟨gl3,gm3⟩⟩:=hH
 refine Ak _ _ Tryz.func61 rfl rfl rfl (hS0) ?_
 refine Ao ?_
 refine Ft (k:=k) hk.1 hk.2 (fun sv sl hsv hlv hln=>?_)
 refine AJ (Gm rfl (Gt (BC VM Vq rfl (.cons A3.l0 rfl rfl rfl (.cons A3.l1 rfl rfl rfl .nil))) (Gt (BV rfl) ?_)))
 refine AT (AK (AU.BL V hk.1 hk.2) rfl rfl rfl TP rfl (.t (.t (.t .h)))) ?_
 refine Gn (.t2 0 1) (CG ?_)
 refine Gt (Er Tryz.underlying145 C6 cM rfl (.cons (AU.arr (n:=2) (i:=0) Bu (by decide) (by decide)) rfl rfl rfl (.cons (AU.arr (n:=2) (i:=1) Bu (by decide) (by decide)) rfl rfl rfl .nil))) ?_
 refine Gm rfl (AQ (AA (Ae ?_)))
 refine Bn (.t4 12 0 1 11) ?_
 refine Ba (.t (.t (.t .h))) ?_
 refine Dl (fun(j:Int) (t:AP) (g:Page.Pg)=>0≤j∧j≤2∧t=(Es j.toNat).1∧g=(Es j.toNat).2) (fun(j:Int) (t:AP) (g:Page.Pg)=>(2 - j).toNat) (fun(j:Int) (t:AP) (g:Page.Pg)=> [(12, .int .i64 j)]) (fun(j:Int) (t:AP) (g:Page.Pg)=> [Ab.box b 101 (Ji V k (ER t g))]) (0) (default) (⟨0,false,[],false⟩) ?_ rfl rfl (fun j t g hI1=>?_)
 · exact⟨by omega,by omega,rfl,rfl⟩
 obtain⟨hI11,hI12,hI13,hI14⟩:=hI1
 refine Gs (Gt (A7 rfl rfl) (AQ (AA (Ao ?_))))
 refine Gc (fun c1=>?_) (fun c1=>?_)
 ·
  have c1p:=kz c1
  refine Aa ?_
  refine AB (.t4 0 1 11 12) ?_
  refine AA (Ao (Ae (Gs ?_)))
  refine Gt (KK Bu Tryz.underlying145 C6 A2 rfl rfl (by first | omega | exact hk.1 | exact hk.2 | (have h1:=Fa t (Du j);have h2:=H7 (t.DP (Du j)).1 (Du j);dsimp only [Du,ER] at *;(try simp only [List.length_nil]);omega)) (by first | omega | exact hk.1 | exact hk.2 | (have h1:=Fa t (Du j);have h2:=H7 (t.DP (Du j)).1 (Du j);dsimp only [Du,ER] at *;(try simp only [List.length_nil]);omega)) rfl) ?_
  refine Ga rfl (Gn (.t5 0 1 5 11 12) (Gs (Ga rfl (Ga rfl (Gn (.t6 0 1 5 7 11 12) (CG (Gm rfl ?_)))))))
  refine Gm rfl (Gt (BV rfl) (Gt (Ai K7 rfl) (Gt (AZ rfl D5 .m0 ((AU.BL V hk.1 hk.2).comp A3.l2) rfl) (Gm rfl ?_))))
  refine BA rfl eR (.c rfl (.c rfl .n)) (fun w hS=>L7 _ _ w) ?_
  refine Gm rfl (Gt (AN rfl rfl) (Gt (AN rfl rfl) (Gt (AN rfl rfl) (Gt (BV rfl) (Gt (Ai K7 rfl) ?_)))))
  refine AT (AK ((AU.BL V hk.1 hk.2).comp A3.l2) rfl rfl rfl KT rfl .h) ?_
  refine Ga rfl (Gn (.t7 0 1 5 6 7 11 12) (Gs (Gm rfl (Gt (Bw rfl rfl) (Gn (.t8 0 1 5 6 7 11 12 29) ?_)))))
  refine Gc (fun c2=>?_) (fun c2=>?_)
  ·
   have c2p:=kz c2
   refine AJ (Gm rfl (Gm rfl (Gt (BV rfl) (Gt (Ai K7 rfl) (Gt (AZ rfl D5 .m0 ((AU.BL V hk.1 hk.2).comp A3.l2) rfl) (Gm rfl ?_))))))
   refine BA rfl eG (.c rfl (.c rfl .n)) (fun w hS=>NG _ _ w) ?_
   refine Gm rfl (Gt (AN rfl rfl) (Gt (AN rfl rfl) (Gt (AN rfl rfl) (Gt (BV rfl) (Gt (Ai K7 rfl) ?_)))))
   refine AT (AK ((AU.BL V hk.1 hk.2).comp A3.l2) rfl rfl rfl KT rfl .h) ?_
   refine Ga rfl (Gn (.t6 0 1 6 7 11 12) (AJ (Gm rfl (Gm rfl (Gt (BV rfl) (Gt (Ai D2 rfl) (Gt (AZ rfl C5 .m0 ((AU.BL V hk.1 hk.2).comp A3.l4) rfl) ?_)))))))
   refine Gm rfl (Gm rfl ?_)
   refine Gt (CV rfl rfl (by first | omega | exact hk.1 | exact hk.2 | (have h1:=Fa t (Du j);have h2:=H7 (t.DP (Du j)).1 (Du j);dsimp only [Du,ER] at *;(try simp only [List.length_nil]);omega))) ?_
   refine BA rfl XW (.c rfl (.c rfl .n)) (fun w hS=>ET _ _ (by simp only [List.length_append];have h1:=Fa t (Du j);have h2:=H7 (t.DP (Du j)).1 (Du j);dsimp only [Du,ER] at *;(try simp only [List.length_nil]);omega) w) ?_
   refine Gm rfl (Gt (AN rfl rfl) (Gt (AN rfl rfl) (Gt (BV rfl) (Gt (Ai D2 rfl) ?_))))
   refine AT (AK ((AU.BL V hk.1 hk.2).comp A3.l4) rfl rfl rfl Fz rfl .h) ?_
   refine AQ (AB (.t4 0 1 11 12) ?_)
   refine AV (AA ?_)
   refine F9 (fun _=> .h) (congrArg (Ji V k) (show _=ER (IK t (Du j)) (Kl t g (Du j)) from by rw [ER,Kl,show IK t (Du j)=_ from BB c2,show MX t (Du j)=_ from BB c2];rfl)) ?_
   refine AJ ?_
   refine Gt (Av rfl rfl (IntWalk.i64_in _ (by first | omega | exact hk.1 | exact hk.2 | (have h1:=Fa t (Du j);have h2:=H7 (t.DP (Du j)).1 (Du j);dsimp only [Du,ER] at *;(try simp only [List.length_nil]);omega)))) ?_
   refine Gm rfl ?_
   refine AQ (AB (.t4 0 1 11 12) ?_)
   refine Bt (j+1) _ _ ?_ ?_ (.t4 12 0 1 11) (.refl _)
   · exact⟨by omega,by omega,by rw [HF hI11,← hI13,← hI14],by rw [HF hI11,← hI13,← hI14]⟩
   · omega
  have c2p:=kz c2
  refine Aa ?_
  refine AB (.t6 0 1 6 7 11 12) ?_
  refine AA (AJ (Gm rfl (Gm rfl (Gt (BV rfl) (Gt (Ai D2 rfl) (Gt (AZ rfl C5 .m0 ((AU.BL V hk.1 hk.2).comp A3.l4) rfl) (Gm rfl ?_)))))))
  refine Gm rfl ?_
  refine Gt (CV rfl rfl (by first | omega | exact hk.1 | exact hk.2 | (have h1:=Fa t (Du j);have h2:=H7 (t.DP (Du j)).1 (Du j);dsimp only [Du,ER] at *;(try simp only [List.length_nil]);omega))) ?_
  refine BA rfl XW (.c rfl (.c rfl .n)) (fun w hS=>ET _ _ (by simp only [List.length_append];have h1:=Fa t (Du j);have h2:=H7 (t.DP (Du j)).1 (Du j);dsimp only [Du,ER] at *;(try simp only [List.length_nil]);omega) w) ?_
  refine Gm rfl (Gt (AN rfl rfl) (Gt (AN rfl rfl) (Gt (BV rfl) (Gt (Ai D2 rfl) ?_))))
  refine AT (AK ((AU.BL V hk.1 hk.2).comp A3.l4) rfl rfl rfl Fz rfl .h) ?_
  refine AQ (AB (.t4 0 1 11 12) ?_)
  refine AV (AA ?_)
  refine F9 (fun _=> .h) (congrArg (Ji V k) (show _=ER (IK t (Du j)) (Kl t g (Du j)) from by rw [ER,Kl,show IK t (Du j)=_ from AX c2,show MX t (Du j)=_ from AX c2];rfl)) ?_
  refine AJ ?_
  refine Gt (Av rfl rfl (IntWalk.i64_in _ (by first | omega | exact hk.1 | exact hk.2 | (have h1:=Fa t (Du j);have h2:=H7 (t.DP (Du j)).1 (Du j);dsimp only [Du,ER] at *;(try simp only [List.length_nil]);omega)))) ?_
  refine Gm rfl ?_
  refine AQ (AB (.t4 0 1 11 12) ?_)
  refine Bt (j+1) _ _ ?_ ?_ (.t4 12 0 1 11) (.refl _)
  · exact⟨by omega,by omega,by rw [HF hI11,← hI13,← hI14],by rw [HF hI11,← hI13,← hI14]⟩
  · omega
 have c1p:=kz c1
 obtain rfl:j=2:=by omega
 refine Bb (AW (AW (Ag ?_)))
 refine AB (.t2 0 1) ?_
 refine AA (Ao ?_)
 refine E7 A8 9 1 ?_
 refine E7 A8 9 1 ?_
 refine E7 A8 9 1 ?_
 refine Ey (.c (.t (.t .h)) (.c (.t .h) (.c .h (.c .h (.c (.t (.t (.t .h))) .n))))) ?_
 refine HM hk.1 hk.2 (by rfl) (by rfl) (by rfl) ?_
 refine AJ (Gm rfl (Gm rfl ?_))
 refine Ah rfl TV (.c rfl (.c rfl (.c rfl .n))) (.c .h (.c .h (.c (.t (.t (.t .h))) .n))) (EL _ (AM.BL V k (ER t g)) (ls.put k ⟨[],[],[]⟩) ev k _ hk (by rw [Vector.CD hk.1 hk.2];exact Nat.zero_le _)) (fun v4 B hv=>?_)
 obtain⟨y5,y6,y7,rfl,y8,rfl⟩:=hv
 refine Gn (.t1 0) (AJ (Gm rfl ?_))
 refine BF rfl SX (.c rfl .n) (.c .h (.c .h (.c .h .n))) (Dt _ y5 y6 y7 (n+1) m (by rw [y8,(show A5 (AM.BL V k (ER t g)) (ls.put k ⟨[],[],[]⟩) ev=AI.set (A5 V ls ev) k (Cq (ER t g) YY) from IZ V ls ev hk.1 hk.2 _ _)];exact(hF.comes hk.1 hk.2 t g).tell hk.1 hk.2 (show AI.Hq.length≤_ by decide)) (by omega) (by omega)) (fun w hS=>⟨gl0.pull gm0 hS (.c .h (.c .h (.c .h .n))),gl1.pull gm1 hS (.c .h (.c .h (.c .h .n))),gl2.pull gm2 hS (.c .h (.c .h (.c .h .n))),gl3.pull gm3 hS (.c .h (.c .h (.c .h .n)))⟩) (fun v9 B hv=>?_)
 obtain⟨y10,y11,y12,rfl,y13,rfl⟩:=hv
 refine AQ ?_
 refine Bk rfl .n ?_
 intro w1 hS
 have hS:=(hS.perm (Ax.perm (.c .h (.c .h (.c .h .n))))).A1
 refine⟨_,⟨y10,y11,y12,rfl,?ga1,rfl⟩,hS⟩
 case ga1=>rw [y13,y8,(show A5 (AM.BL V k (ER t g)) (ls.put k ⟨[],[],[]⟩) ev=AI.set (A5 V ls ev) k (Cq (ER t g) YY) from IZ V ls ev hk.1 hk.2 _ _),hI13,hI14];unfold AI.Jg;rw [← Oq];rfl
theorem E1 {α:Type}{ea:α→List Value}{o:Nat}{g:α→Int}{st:α→Int→α}(b V:Nat)(Y:α)(on:Bool)(opt yes no:Int)(h0:0≤yes∧yes≤255)(h1:0≤no∧no≤255)(h2:0≤opt∧opt≤255)(ln:AU ea Aq o 1 g st):JQ Tryz.prog 75 #[.pointer (some ⟨b,o,none⟩), .bool on, .int .i64 opt, .int .i64 yes, .int .i64 no] [Ab.box b V (ea Y)] (fun v B=>v=BU (AP.Ia (g Y) on opt yes no)∧B = [Ab.box b V (ea (st Y (AP.Y3 on)))]):=by
 intro w hS0
 refine Ak _ _ Tryz.func75 rfl rfl rfl (hS0) ?_
 refine Gs (Ga rfl (Gn (.t5 0 1 2 3 4) (Gs (Gm rfl (Gt (BV rfl) (Gt (AG rfl A2 .m0 ln rfl rfl) (Ga rfl ?_)))))))
 refine Gn (.t6 0 1 2 3 4 11) (Gs (Gm rfl (Gt (BV rfl) ?_)))
 refine AT (AK ln rfl rfl rfl C6 rfl .h) ?_
 refine Gn (.t6 0 1 2 3 4 11) (CG (Gm rfl (AQ (AA ?_))))
 refine Gc (fun c1=>?_) (fun c1=>?_)
 ·
  have c1p:=kz c1
  refine AJ (Gm rfl (Gt (BV rfl) ?_))
  refine AT (AK ln rfl rfl rfl C6 rfl .h) ?_
  refine Gn (.t5 1 2 3 4 11) (Ao (Ae (Gs (Gm rfl (Gm rfl (Bf 22 rfl rfl (fun q=>AF rfl) (Bf 22 rfl rfl (fun q=>Af (Bc rfl q) rfl) ?_)))))))
  refine Gt (BG rfl rfl (fun h=>h)) (Ga rfl (Gn (.t6 1 2 3 4 11 20) ?_))
  refine Gc (fun c2=>?_) (fun c2=>?_)
  ·
   have c2p:=kz c2
   refine Gs (Gm rfl (Gm rfl ?_))
   refine BA rfl SQ (.c rfl (.c rfl .n)) (fun w hS=>C3 _ _ (by first | assumption | omega) (by first | assumption | omega) w) ?_
   refine Ga rfl (Gn (.t1 10) (Ac (AS (AD ?_))))
   refine AY rfl (.tmp rfl .n) ?_
   intro w1 hS
   have hS:=(hS.perm (Ax.perm (.c .h .n))).A1
   exact⟨_,⟨by clear hS;simp_all [AP.Ia,VZ],by simp only [AP.Y3,ln.KO,c1,c2,↓reduceIte,Bool.false_eq_true]⟩,hS⟩
  have c2p:=kz c2
  refine Gs (Gm rfl (Gt (BT rfl) (Gm rfl (Bf 32 rfl rfl (fun q=>AF rfl) (Bf 32 rfl rfl (fun q=>Af (Bc rfl q) rfl) (Gt (BG rfl rfl (fun h=>h)) (Ga rfl ?_)))))))
  refine Gn (.t3 2 4 29) ?_
  refine Gc (fun c3=>?_) (fun c3=>?_)
  ·
   have c3p:=kz c3
   refine Gs (Gm rfl (Gm rfl ?_))
   refine BA rfl SQ (.c rfl (.c rfl .n)) (fun w hS=>C3 _ _ (by first | assumption | omega) (by first | assumption | omega) w) ?_
   refine Ga rfl (Gn (.t1 10) (Ac (AS (AD ?_))))
   refine AY rfl (.tmp rfl .n) ?_
   intro w1 hS
   have hS:=(hS.perm (Ax.perm (.c .h .n))).A1
   exact⟨_,⟨by clear hS;simp_all [AP.Ia,VZ],by simp only [AP.Y3,ln.KO,c1,c2,c3,↓reduceIte,Bool.false_eq_true]⟩,hS⟩
  have c3p:=kz c3
  refine Aa ?_
  refine AB (.nil _) ?_
  refine AV (AA (Gs (Ga rfl (AQ (AA (Ac ?_))))))
  refine AY rfl (.tmp rfl .n) ?_
  intro w1 hS
  have hS:=(hS.perm (Ax.perm (.c .h .n))).A1
  exact⟨_,⟨by clear hS;simp_all [AP.Ia,VZ],by simp only [AP.Y3,ln.KO,c1,c2,c3,↓reduceIte,Bool.false_eq_true]⟩,hS⟩
 have c1p:=kz c1
 refine Aa ?_
 refine AB (.t5 1 2 3 4 11) ?_
 refine AA (Ao (Ae (Gs (Gm rfl (Gm rfl (Bf 22 rfl rfl (fun q=>AF rfl) (Bf 22 rfl rfl (fun q=>Af (Bc rfl q) rfl) ?_)))))))
 refine Gt (BG rfl rfl (fun h=>h)) (Ga rfl (Gn (.t6 1 2 3 4 11 20) ?_))
 refine Gc (fun c4=>?_) (fun c4=>?_)
 ·
  have c4p:=kz c4
  refine Gs (Gm rfl (Gm rfl ?_))
  refine BA rfl SQ (.c rfl (.c rfl .n)) (fun w hS=>C3 _ _ (by first | assumption | omega) (by first | assumption | omega) w) ?_
  refine Ga rfl (Gn (.t1 10) (Ac (AS (AD ?_))))
  refine AY rfl (.tmp rfl .n) ?_
  intro w1 hS
  have hS:=(hS.perm (Ax.perm (.c .h .n))).A1
  exact⟨_,⟨by clear hS;simp_all [AP.Ia,VZ],by simp only [AP.Y3,ln.KO,c1,c4,↓reduceIte,Bool.false_eq_true]⟩,hS⟩
 have c4p:=kz c4
 refine Gs (Gm rfl (Gt (BT rfl) (Gm rfl (Bf 32 rfl rfl (fun q=>AF rfl) (Bf 32 rfl rfl (fun q=>Af (Bc rfl q) rfl) (Gt (BG rfl rfl (fun h=>h)) (Ga rfl ?_)))))))
 refine Gn (.t3 2 4 29) ?_
 refine Gc (fun c5=>?_) (fun c5=>?_)
 ·
  have c5p:=kz c5
  refine Gs (Gm rfl (Gm rfl ?_))
  refine BA rfl SQ (.c rfl (.c rfl .n)) (fun w hS=>C3 _ _ (by first | assumption | omega) (by first | assumption | omega) w) ?_
  refine Ga rfl (Gn (.t1 10) (Ac (AS (AD ?_))))
  refine AY rfl (.tmp rfl .n) ?_
  intro w1 hS
  have hS:=(hS.perm (Ax.perm (.c .h .n))).A1
  exact⟨_,⟨by clear hS;simp_all [AP.Ia,VZ],by simp only [AP.Y3,ln.KO,c1,c4,c5,↓reduceIte,Bool.false_eq_true]⟩,hS⟩
 have c5p:=kz c5
 refine Aa ?_
 refine AB (.nil _) ?_
 refine AV (AA (Gs (Ga rfl (AQ (AA (Ac ?_))))))
 refine AY rfl (.tmp rfl .n) ?_
 intro w1 hS
 have hS:=(hS.perm (Ax.perm (.c .h .n))).A1
 exact⟨_,⟨by clear hS;simp_all [AP.Ia,VZ],by simp only [AP.Y3,ln.KO,c1,c4,c5,↓reduceIte,Bool.false_eq_true]⟩,hS⟩
theorem JT (b:Nat)(X:AP)(verb opt:Int)(h0:0≤opt∧opt≤255):JQ Tryz.prog 56 #[.pointer (some ⟨b,0,none⟩), .int .i64 verb, .int .i64 opt] [Ab.box b 69 X.enc] (fun v B=>v=BU (X.B5 verb opt).2∧B = [Ab.box b 69 (X.B5 verb opt).1.enc]):=by
 intro w hS0
 refine Ak _ _ Tryz.func56 rfl rfl rfl (hS0) ?_
 refine Gs (Ga rfl (Gn (.t3 0 1 2) (Gs (Gm rfl ?_))))
 refine BA rfl aH (.c rfl .n) (fun w hS=>Fl _ w) ?_
 refine Gm rfl (Gt (AN rfl rfl) (Gt (AN rfl rfl) (Gt (AN rfl rfl) (Ga rfl (Ga rfl (Ga rfl (Gn (.t6 0 1 2 7 8 9) ?_)))))))
 refine CG (Gm rfl (Gn (.t6 0 2 7 8 9 16) (Ae (Gs (Gt (Af rfl rfl) (Ga rfl (Gn (.t7 0 2 7 8 9 16 17) ?_)))))))
 refine Gc (fun c1=>?_) (fun c1=>?_)
 ·
  have c1p:=kz c1
  refine CG (Gm rfl (Gt (BT rfl) (Gn (.t4 0 2 7 20) ?_)))
  refine Gc (fun c2=>?_) (fun c2=>?_)
  ·
   have c2p:=kz c2
   refine Gs (Gm rfl ?_)
   refine BA rfl SQ (.c rfl (.c rfl .n)) (fun w hS=>C3 _ _ (by first | assumption | omega) (by first | assumption | omega) w) ?_
   refine Ga rfl (Gn (.t1 6) (Ac (AD (AS (AD ?_)))))
   refine AY rfl (.tmp rfl .n) ?_
   intro w1 hS
   have hS:=(hS.perm (Ax.perm (.c .h .n))).A1
   exact⟨_,⟨by simp only [AP.B5,c1,c2,↓reduceIte,Bool.false_eq_true]<;>rfl,by simp only [AP.B5,c1,c2,↓reduceIte,Bool.false_eq_true]<;>rfl⟩,hS⟩
  have c2p:=kz c2
  have hk:=AP.Ng (opt:=opt) (by simpa using c2)
  have hk1:0≤(AP.place opt).1∧(AP.place opt).1 < 3:=by rcases hk with ⟨_,e⟩ | ⟨_,e⟩<;>rw [e]<;>decide
  refine Aa ?_
  refine AB (.t3 0 2 7) ?_
  refine AA (Gs (Gm rfl (Gm rfl (Gt (BV rfl) (Gt (Ai Ks rfl) ?_)))))
  refine Gt (AR Kr rfl rfl (by omega) (by omega)) ?_
  refine Gm rfl ?_
  refine Ah rfl Yj (.c rfl (.c rfl (.c rfl (.c rfl (.c rfl .n))))) (.c .h .n) (E1 _ _ _ _ _ _ _ (by first | assumption | omega) (by first | assumption | omega) (by first | assumption | omega) (AP.l3.comp (AU.ar (n:=3) Bu (by omega)))) (fun v1 B hv=>?_)
  obtain⟨rfl,rfl⟩:=hv
  refine Ga rfl (Gn (.t1 6) (Ac (AS (AD ?_))))
  refine AY rfl (.tmp rfl .n) ?_
  intro w1 hS
  have hS:=(hS.perm (Ax.perm (.c .h .n))).A1
  exact⟨_,⟨by simp only [AP.B5,c1,c2,↓reduceIte,Bool.false_eq_true]<;>rfl,by simp only [AP.B5,c1,c2,↓reduceIte,Bool.false_eq_true]<;>rfl⟩,hS⟩
 have c1p:=kz c1
 refine Gs (Gt (Af rfl rfl) (Ga rfl (Gn (.t7 0 2 7 8 9 16 30) ?_)))
 refine Gc (fun c3=>?_) (fun c3=>?_)
 ·
  have c3p:=kz c3
  refine Gs (Gm rfl (Gn (.t4 0 2 7 32) ?_))
  refine Gc (fun c4=>?_) (fun c4=>?_)
  ·
   have c4p:=kz c4
   have hk:=AP.Ng (opt:=opt) (by simpa using c4)
   have hk1:0≤(AP.place opt).1∧(AP.place opt).1 < 3:=by rcases hk with ⟨_,e⟩ | ⟨_,e⟩<;>rw [e]<;>decide
   refine Gs (Gm rfl (Gm rfl (Gt (BV rfl) (Gt (Ai Ks rfl) ?_))))
   refine Gt (AR Kr rfl rfl (by omega) (by omega)) ?_
   refine Gm rfl ?_
   refine Ah rfl Yj (.c rfl (.c rfl (.c rfl (.c rfl (.c rfl .n))))) (.c .h .n) (E1 _ _ _ _ _ _ _ (by first | assumption | omega) (by first | assumption | omega) (by first | assumption | omega) (AP.l3.comp (AU.ar (n:=3) Bu (by omega)))) (fun v2 B hv=>?_)
   obtain⟨rfl,rfl⟩:=hv
   refine Ga rfl (Gn (.t1 6) (Ac (AS (AD ?_))))
   refine AY rfl (.tmp rfl .n) ?_
   intro w1 hS
   have hS:=(hS.perm (Ax.perm (.c .h .n))).A1
   exact⟨_,⟨by simp only [AP.B5,c1,c3,c4,↓reduceIte,Bool.false_eq_true]<;>rfl,by simp only [AP.B5,c1,c3,c4,↓reduceIte,Bool.false_eq_true]<;>rfl⟩,hS⟩
  refine Aa ?_
  refine AB (.nil _) ?_
  refine AV (AA (Gs (Ga rfl (AQ (AA (Ac ?_))))))
  refine AY rfl (.tmp rfl .n) ?_
  intro w1 hS
  have hS:=(hS.perm (Ax.perm (.c .h .n))).A1
  exact⟨_,⟨by simp only [AP.B5,c1,c3,c4,↓reduceIte,Bool.false_eq_true]<;>rfl,by simp only [AP.B5,c1,c3,c4,↓reduceIte,Bool.false_eq_true]<;>rfl⟩,hS⟩
 have c3p:=kz c3
 refine Gs (Gt (Af rfl rfl) (Ga rfl (Gn (.t6 0 2 7 9 16 40) ?_)))
 refine Gc (fun c5=>?_) (fun c5=>?_)
 ·
  have c5p:=kz c5
  refine CG (Gm rfl (Gt (BT rfl) (Gn (.t4 0 2 7 43) ?_)))
  refine Gc (fun c6=>?_) (fun c6=>?_)
  ·
   have c6p:=kz c6
   refine Gs (Gm rfl ?_)
   refine BA rfl SQ (.c rfl (.c rfl .n)) (fun w hS=>C3 _ _ (by first | assumption | omega) (by first | assumption | omega) w) ?_
   refine Ga rfl (Gn (.t1 6) (Ac (AD (AS (AD ?_)))))
   refine AY rfl (.tmp rfl .n) ?_
   intro w1 hS
   have hS:=(hS.perm (Ax.perm (.c .h .n))).A1
   exact⟨_,⟨by simp only [AP.B5,c1,c3,c5,c6,↓reduceIte,Bool.false_eq_true]<;>rfl,by simp only [AP.B5,c1,c3,c5,c6,↓reduceIte,Bool.false_eq_true]<;>rfl⟩,hS⟩
  have c6p:=kz c6
  have hk:=AP.LA (opt:=opt) (by simpa using c6)
  have hk1:0≤(AP.place opt).1∧(AP.place opt).1 < 3:=by rcases hk with ⟨_,e⟩ | ⟨_,e⟩<;>rw [e]<;>decide
  refine Aa ?_
  refine AB (.t3 0 2 7) ?_
  refine AA (Gs (Gm rfl (Gm rfl (Gt (BV rfl) (Gt (Ai Jx rfl) ?_)))))
  refine Gt (AR Kr rfl rfl (by omega) (by omega)) ?_
  refine Gm rfl ?_
  refine Ah rfl Yj (.c rfl (.c rfl (.c rfl (.c rfl (.c rfl .n))))) (.c .h .n) (E1 _ _ _ _ _ _ _ (by first | assumption | omega) (by first | assumption | omega) (by first | assumption | omega) (AP.l4.comp (AU.ar (n:=3) Bu (by omega)))) (fun v3 B hv=>?_)
  obtain⟨rfl,rfl⟩:=hv
  refine Ga rfl (Gn (.t1 6) (Ac (AS (AD ?_))))
  refine AY rfl (.tmp rfl .n) ?_
  intro w1 hS
  have hS:=(hS.perm (Ax.perm (.c .h .n))).A1
  exact⟨_,⟨by simp only [AP.B5,c1,c3,c5,c6,↓reduceIte,Bool.false_eq_true]<;>rfl,by simp only [AP.B5,c1,c3,c5,c6,↓reduceIte,Bool.false_eq_true]<;>rfl⟩,hS⟩
 have c5p:=kz c5
 refine Gs (Gt (Af rfl rfl) (Ga rfl (Gn (.t5 0 2 7 9 53) ?_)))
 refine Gc (fun c7=>?_) (fun c7=>?_)
 ·
  have c7p:=kz c7
  refine Gs (Gm rfl (Gn (.t4 0 2 7 55) ?_))
  refine Gc (fun c8=>?_) (fun c8=>?_)
  ·
   have c8p:=kz c8
   have hk:=AP.LA (opt:=opt) (by simpa using c8)
   have hk1:0≤(AP.place opt).1∧(AP.place opt).1 < 3:=by rcases hk with ⟨_,e⟩ | ⟨_,e⟩<;>rw [e]<;>decide
   refine Gs (Gm rfl (Gm rfl (Gt (BV rfl) (Gt (Ai Jx rfl) ?_))))
   refine Gt (AR Kr rfl rfl (by omega) (by omega)) ?_
   refine Gm rfl ?_
   refine Ah rfl Yj (.c rfl (.c rfl (.c rfl (.c rfl (.c rfl .n))))) (.c .h .n) (E1 _ _ _ _ _ _ _ (by first | assumption | omega) (by first | assumption | omega) (by first | assumption | omega) (AP.l4.comp (AU.ar (n:=3) Bu (by omega)))) (fun v4 B hv=>?_)
   obtain⟨rfl,rfl⟩:=hv
   refine Ga rfl (Gn (.t1 6) (Ac (AS (AD ?_))))
   refine AY rfl (.tmp rfl .n) ?_
   intro w1 hS
   have hS:=(hS.perm (Ax.perm (.c .h .n))).A1
   exact⟨_,⟨by simp only [AP.B5,c1,c3,c5,c7,c8,↓reduceIte,Bool.false_eq_true]<;>rfl,by simp only [AP.B5,c1,c3,c5,c7,c8,↓reduceIte,Bool.false_eq_true]<;>rfl⟩,hS⟩
  refine Aa ?_
  refine AB (.nil _) ?_
  refine AV (AA (Gs (Ga rfl (AQ (AA (Ac ?_))))))
  refine AY rfl (.tmp rfl .n) ?_
  intro w1 hS
  have hS:=(hS.perm (Ax.perm (.c .h .n))).A1
  exact⟨_,⟨by simp only [AP.B5,c1,c3,c5,c7,c8,↓reduceIte,Bool.false_eq_true]<;>rfl,by simp only [AP.B5,c1,c3,c5,c7,c8,↓reduceIte,Bool.false_eq_true]<;>rfl⟩,hS⟩
 refine Aa ?_
 refine AB (.nil _) ?_
 refine AV (AA (Gs (Ga rfl (AQ (AA (Ac ?_))))))
 refine AY rfl (.tmp rfl .n) ?_
 intro w1 hS
 have hS:=(hS.perm (Ax.perm (.c .h .n))).A1
 exact⟨_,⟨by simp only [AP.B5,c1,c3,c5,c7,↓reduceIte,Bool.false_eq_true]<;>rfl,by simp only [AP.B5,c1,c3,c5,c7,↓reduceIte,Bool.false_eq_true]<;>rfl⟩,hS⟩
theorem G8 (b:Nat)(X:AP)(c:UInt8)(h0:X.sub.length≤16):JQ Tryz.prog 57 #[.pointer (some ⟨b,0,none⟩), .int .u8 (c.toNat:Int)] [Ab.box b 69 X.enc] (fun v B=>v = .tuple #[]∧B = [Ab.box b 69 (X.collect c).enc]):=by
 intro w hS0
 refine Ak _ _ Tryz.func57 rfl rfl rfl (hS0) ?_
 refine Gs (Gm rfl (Gt (BV rfl) (Gt (Ai G2 rfl) (Gt (AG rfl CX .m0 AP.l2 rfl rfl) (Gt (BI rfl Tryz.underlying9 rfl) (Gt (A7 rfl rfl) (Gn (.t3 0 1 9) ?_)))))))
 refine Gc (fun c1=>?_) (fun c1=>?_)
 ·
  have c1p:=kz c1
  refine BE (N:=11) [0,1,3,7,0,16,48,127,255,511,1023] mix (by kernel_rfl) rfl ?_
  refine Pf 0 rfl (AF rfl) (Pf 1 rfl (BV rfl) (Pf 2 rfl (Ai G2 rfl) (Pf 3 rfl (AG rfl CX .m0 AP.l2 rfl rfl) (Pf 4 rfl (AF rfl) ?_))))
  refine An 5 rfl (by kernel_rfl) ?_
  refine S4 rfl Tryz.underlying105 VY aE rfl (by decide) (by decide) rfl rfl rfl (fun b1=>?_)
  refine Bq rfl ⟨?_,?_⟩
  · exact(Pk (Po rfl (AG rfl CX .m1 AP.l2 rfl rfl) rfl rfl (Po rfl (Ai G2 rfl) rfl rfl (Po rfl (BV rfl) rfl rfl (Po rfl (AF rfl) rfl rfl As)))))
  refine Pf 6 rfl (PG (s:= [c]) rfl Tryz.underlying105 Tryz.underlying9 Tryz.underlying5 rfl (Kn.own .m0)) ?_
  refine Pf 7 rfl (CV rfl rfl (by simp only [List.length_cons,List.length_nil];omega)) ?_
  refine Pf 8 rfl (BV rfl) (Pf 9 rfl (Ai G2 rfl) ?_)
  refine An 10 rfl (by kernel_rfl) ?_
  refine AT (AK AP.l2 rfl rfl rfl E5 rfl (.t .h)) ?_
  refine BN rfl ⟨?_,?_⟩
  · exact(Pk (Pk (Pk (Pk (Pk (Pk (Pk (Pk (Pk As)))))))))
  refine A4 (by kernel_rfl) ?_
  refine Bk rfl .n ?_
  intro w1 hS
  have hS:=(hS.perm (Ax.perm (.c (.t .h) .n))).A1
  exact⟨_,⟨rfl,by simp only [AP.collect,c1,↓reduceIte,Bool.false_eq_true]⟩,hS⟩
 refine Aa ?_
 refine Bk rfl .n ?_
 intro w1 hS
 have hS:=(hS.perm (Ax.perm (.c .h .n))).A1
 exact⟨_,⟨rfl,by simp only [AP.collect,c1,↓reduceIte,Bool.false_eq_true]⟩,hS⟩
theorem KV (b:Nat)(X:AP):JQ Tryz.prog 58 #[.pointer (some ⟨b,0,none⟩)] [Ab.box b 69 X.enc] (fun v B=>v = .tuple #[]∧B = [Ab.box b 69 X.measure.enc]):=by
 intro w hS0
 refine Ak _ _ Tryz.func58 rfl rfl rfl (hS0) ?_
 refine Gs (Gm rfl (Gt (BV rfl) (Gt (Ai G2 rfl) (Gt (AG rfl CX .m0 AP.l2 rfl rfl) (Gt (BI rfl Tryz.underlying9 rfl) (Gt (Af rfl rfl) (Gm rfl ?_)))))))
 refine Bf 8 rfl rfl (fun q=>AF rfl) (Bf 8 rfl rfl (fun q=>BV (Bc rfl q)) (Bf 8 rfl rfl (fun q=>Ai G2 (Bc rfl q)) (Bf 8 rfl rfl (fun q=>AG (Bc rfl q) CX .m0 AP.l2 rfl rfl) ?_)))
 refine Bf 8 rfl rfl (fun q=>by have q1:=q;(try simp at q1);exact Bl Tryz.underlying9 (Bc rfl q) rfl (by decide) (by omega)) ?_
 refine Bf 8 rfl rfl (fun q=>Af (Bc rfl q) rfl) (Gt (BG rfl rfl (fun h=>h)) (Gm rfl (Bf 16 rfl rfl (fun q=>AF rfl) (Bf 16 rfl rfl (fun q=>BV (Bc rfl q)) (Bf 16 rfl rfl (fun q=>Ai Jx (Bc rfl q)) ?_)))))
 refine Bf 16 rfl rfl (fun q=>AR Kr (Bc rfl q) rfl (by decide) (by decide)) ?_
 refine Bf 16 rfl rfl (fun q=>AG (Bc rfl q) A2 .m0 (AP.l4.comp (AU.arr (n:=3) Bu (by decide) (by decide))) rfl rfl) ?_
 refine Bf 16 rfl rfl (fun q=>Af (Bc rfl q) rfl) (Gt (BG rfl rfl (fun h=>h)) (Gn (.t2 0 23) ?_))
 refine Gc (fun c1=>?_) (fun c1=>?_)
 ·
  have c1p:=kz c1
  refine BE (N:=19) [0,0,2,6,14,30,62,126,0,256,768,1792,3840,7936,16382,32766,65535,131071,262143] mix (by kernel_rfl) rfl ?_
  refine Pf 0 rfl (AF rfl) (Pf 1 rfl (AF rfl) (Pf 2 rfl (BV rfl) (Pf 3 rfl (Ai G2 rfl) (Pf 4 rfl (AG rfl CX .m0 AP.l2 rfl rfl) ?_))))
  refine Pf 5 rfl (Bl Tryz.underlying9 rfl rfl (by decide) (by omega)) ?_
  refine Pf 6 rfl (Tx Tryz.underlying3 Tryz.underlying5 rfl) (Pf 7 rfl (Y0 rfl rfl) (Pf 8 rfl (AF rfl) (Pf 9 rfl (BV rfl) (Pf 10 rfl (Ai G2 rfl) (Pf 11 rfl (AG rfl CX .m0 AP.l2 rfl rfl) ?_)))))
  refine Pf 12 rfl (Bl Tryz.underlying9 rfl rfl (by decide) (by omega)) ?_
  refine Pf 13 rfl (Tx Tryz.underlying3 Tryz.underlying5 rfl) (Pf 14 rfl (Z2 rfl rfl) (Pf 15 rfl (MA rfl rfl) (Pf 16 rfl (BV rfl) (Pf 17 rfl (Ai RA rfl) ?_))))
  refine An 18 rfl (by kernel_rfl) ?_
  refine AT (AK AP.l5 rfl rfl rfl C6 rfl .h) ?_
  refine BN rfl ⟨?_,?_⟩
  · exact(Pk (Pk (Pk (Pk (Pk (Pk (Pk (Pk (Pk (Pk (Pk (Pk (Pk (Pk (Pk (Pk (Pk (Pk As))))))))))))))))))
  refine A4 (by kernel_rfl) ?_
  refine Bk rfl .n ?_
  intro w1 hS
  have hS:=(hS.perm (Ax.perm (.c .h .n))).A1
  exact⟨_,⟨rfl,by rw [show X.measure=_ from BB c1];rfl⟩,hS⟩
 refine Aa ?_
 refine Bk rfl .n ?_
 intro w1 hS
 have hS:=(hS.perm (Ax.perm (.c .h .n))).A1
 exact⟨_,⟨rfl,by rw [show X.measure=_ from AX c1]⟩,hS⟩
theorem Mh (X:AP)(u:Ap)(hu:u.length≤140737488351232)(w:World):Ed Tryz.prog 29 #[.agg X.enc.toArray,BU u] w fun v w'=>v = .tuple #[.agg (X.Dg u).1.enc.toArray,BU (X.Dg u).2.1,BU (X.Dg u).2.2.1, .int .i64 (X.Dg u).2.2.2]∧CA w w':=by
 refine Ak [] [] Tryz.func29 rfl rfl rfl (St.start w []) ?_
 refine Gs ?_
 refine B6 rfl rfl rfl (fun b1=>?_)
 refine BD rfl aU rfl (fun b2=>?_)
 refine Ga rfl (Ga rfl (Ga rfl (Gn (.t3 1 2 4) (CG (Gt (AZ rfl D5 .m1 (AU.id AP.fl.len AP.fl.one) rfl) ?_)))))
 refine BA rfl aS (.c rfl .n) (fun w hS=>GJ _ w) ?_
 refine Gt (BT rfl) (Gn (.t4 1 2 4 15) ?_)
 refine Gc (fun c1=>?_) (fun c1=>?_)
 ·
  refine Gs (Gt (AZ rfl D5 .m1 (AU.id AP.fl.len AP.fl.one) rfl) ?_)
  refine AT (AK (AU.id AP.fl.len AP.fl.one) rfl rfl rfl KT rfl .h) ?_
  refine Ga rfl (Ga rfl (Ga rfl (Gn (.t4 4 5 6 7) (Ac (AD ?_)))))
  refine AY rfl (.cell rfl .m0 (.inl ⟨(by rw [AP.fl.len];exact D5),rfl⟩) (.tmp rfl (.tmp rfl (.tmp rfl .n)))) ?_
  intro w1 hS;refine⟨?_,hS.Am⟩;rw [show X.Dg u=_ from BB c1];rfl
 have c1p:=kz c1
 have hg:X.Bh=true:=by simpa using c1
 refine Aa ?_
 refine AB (.t3 1 2 4) ?_
 refine AA (Gs ?_)
 refine BD rfl Uu rfl (fun b3=>?_)
 refine Dm DT 5 1 ?_
 refine BD rfl Uu rfl (fun b4=>?_)
 refine Dm DT 5 1 ?_
 refine AQ (AA (CG (Gm rfl ?_)))
 refine Nx rfl Tryz.underlying9 Tryz.underlying105 Tryz.underlying5 rfl (fun h1 h1l=>?_)
 refine Gt (Ar rfl Tryz.underlying105 rfl) (Gm rfl (Gn (.t7 2 4 8 9 18 19 20) (Ae ?_)))
 refine Bn (.t7 20 2 4 8 9 18 19) ?_
 refine Ba (.t (.t (.t (.t (.t (.t .h)))))) ?_
 refine Ba (.t (.t (.t (.t (.t .h))))) ?_
 refine Ba (.t (.t (.t (.t (.t .h))))) ?_
 refine Ba (.t (.t (.t (.t (.t .h))))) ?_
 refine Ba (.t (.t (.t (.t (.t .h))))) ?_
 refine Rh (fun(k:Int) (t:AP) (x:Ap) (y:Ap) (p:Option Addr) (h:Hd) (q:Option Addr) (g:Hd)=>AP.Jf X u k t x y∧(p=none∨p=some ⟨b3,0,none⟩)∧h.Z∧h.len=x.length∧(q=none∨q=some ⟨b4,0,none⟩)∧g.Z∧g.len=y.length) (fun(k:Int) (t:AP) (x:Ap) (y:Ap) (p:Option Addr) (h:Hd) (q:Option Addr) (g:Hd)=>((u.length:Int) - k).toNat) (fun(k:Int) (t:AP) (x:Ap) (y:Ap) (p:Option Addr) (h:Hd) (q:Option Addr) (g:Hd)=> [(20, .int .i64 k)]) (fun(k:Int) (t:AP) (x:Ap) (y:Ap) (p:Option Addr) (h:Hd) (q:Option Addr) (g:Hd)=> [Ab.own g 5 1 (y.flatMap DT),Ab.box b4 107 (DY.enc ⟨q,g⟩),Ab.own h 5 1 (x.flatMap DT),Ab.box b3 107 (DY.enc ⟨p,h⟩),Ab.box b1 69 (AP.enc t)]) (0) (X) ([]) ([]) (none) (⟨none,0,0⟩) (none) (⟨none,0,0⟩) ?_ rfl rfl (fun k t x y p h q g hI1=>?_)
 · exact⟨AP.Jf.start (AP.YN hg), .inl rfl,Hd.UW,rfl, .inl rfl,Hd.UW,rfl⟩
 obtain⟨hI11,hp,hz,hl,hq,hzg,hlg⟩:=hI1;have hk0:=hI11.k0;have hk1:=hI11.k1;have hsub:=hI11.sub;have hxl:=hI11.xl;have hyl:=hI11.yl;have hc8:=(u.getD k.toNat 0).toNat_lt;have hyb:=hI11.yb
 refine Gs (Gt (A7 rfl rfl) (AQ (AA (Ao ?_))))
 refine Gc (fun c2=>?_) (fun c2=>?_)
 ·
  have c2p:=kz c2
  refine Aa ?_
  refine AB (.t7 2 4 8 9 18 19 20) ?_
  refine AA (Ao (Ae (Gs ?_)))
  refine Gt (Bp Xn (by decide) (Kn.own .m5) rfl rfl (by omega) (by omega)) ?_
  refine Gt (XM rfl dD (Kn.own .m5) (by omega)) ?_
  refine Ga rfl (Gn (.t8 2 4 8 9 11 18 19 20) (Gs (Gm rfl (Gt (Tx Tryz.underlying3 Tryz.underlying5 rfl) (Ga rfl (Gn (.t9 2 4 8 9 11 12 18 19 20) (Gs ?_)))))))
  refine Gt (Ai Fm rfl) (Gt (AG rfl A2 .m4 AP.l0 rfl rfl) (Gn (.t10 2 4 8 9 11 12 18 19 20 27) (Ae (Gs (Gt (Af rfl rfl) (Ga rfl (Gn (.t11 2 4 8 9 11 12 18 19 20 27 28) ?_)))))))
  refine Gc (fun c3=>?_) (fun c3=>?_)
  ·
   have c3p:=kz c3
   refine Gs (Gm rfl (Gt (Af rfl rfl) (Gn (.t9 2 4 8 9 11 18 19 20 31) ?_)))
   refine Gc (fun c4=>?_) (fun c4=>?_)
   ·
    have c4p:=kz c4
    refine AJ (Gt (Ai Fm rfl) ?_)
    refine AT (AK AP.l0 rfl rfl rfl C6 rfl (.t (.t (.t (.t .h))))) ?_
    refine AQ (AB (.t7 2 4 8 9 18 19 20) ?_)
    refine AV (AV (AA (AJ ?_)))
    refine Gt (Av rfl rfl (IntWalk.i64_in _ (by omega))) ?_
    refine Gm rfl ?_
    refine AQ (AB (.t7 2 4 8 9 18 19 20) ?_)
    refine CS _ _ _ _ _ _ _ _ ?_ ?_ (.t7 20 2 4 8 9 18 19) (.refl _)
    · exact⟨hI11.next (by omega) (by simp only [AP.step,c1,c2,c3,c4,↓reduceIte,Bool.false_eq_true]) (by simp only [AP.step,c1,c2,c3,c4,List.append_nil,↓reduceIte,Bool.false_eq_true]) (by simp only [AP.step,c1,c2,c3,c4,List.append_nil,↓reduceIte,Bool.false_eq_true]),by assumption,by assumption,by assumption,by assumption,by assumption,by assumption⟩
    · omega
   have c4p:=kz c4
   refine AJ (Gm rfl ?_)
   refine Ah rfl YQ (.c rfl (.c rfl .n)) (.c (.t (.t (.t .h))) (.c (.t (.t .h)) .n)) (Ci _ _ _ _ (by assumption) (by assumption) (by assumption) _ (by omega)) (fun v2 B hv=>?_)
   obtain⟨y3,y4,rfl,y5,y6,y7,rfl⟩:=hv
   refine AQ (AB (.t7 2 4 8 9 18 19 20) ?_)
   refine AV (AV (AA (AJ ?_)))
   refine Gt (Av rfl rfl (IntWalk.i64_in _ (by omega))) ?_
   refine Gm rfl ?_
   refine AQ (AB (.t7 2 4 8 9 18 19 20) ?_)
   refine CE (.c (.t (.t .h)) (.c (.t (.t .h)) (.c (.t .h) (.c .h (.c .h (.c .h (.c .h .n))))))) ?_
   refine CZ ?_
   refine CS _ _ _ _ _ _ _ _ ?_ ?_ (.t7 20 2 4 8 9 18 19) (.refl _)
   · exact⟨hI11.next (by omega) (by simp only [AP.step,c1,c2,c3,c4,↓reduceIte,Bool.false_eq_true]) (by simp only [AP.step,c1,c2,c3,c4,List.append_nil,↓reduceIte,Bool.false_eq_true]) (by simp only [AP.step,c1,c2,c3,c4,List.append_nil,↓reduceIte,Bool.false_eq_true]),by assumption,by assumption,by assumption,by assumption,by assumption,by assumption⟩
   · omega
  have c3p:=kz c3
  refine Gs (Gt (Af rfl rfl) (Ga rfl (Gn (.t11 2 4 8 9 11 12 18 19 20 27 35) ?_)))
  refine Gc (fun c5=>?_) (fun c5=>?_)
  ·
   have c5p:=kz c5
   refine Gs (Gt (Ai Fm rfl) ?_)
   refine AT (AK AP.l0 rfl rfl rfl C6 rfl (.t (.t (.t (.t .h))))) ?_
   refine Gn (.t9 2 4 8 9 11 12 18 19 20) (Ae (Gs (Gm rfl (Gt (Af rfl rfl) (Ga rfl (Gn (.t10 2 4 8 9 11 12 18 19 20 38) ?_))))))
   refine Gc (fun c6=>?_) (fun c6=>?_)
   ·
    have c6p:=kz c6
    refine AJ (Gm rfl ?_)
    refine Ah rfl YQ (.c rfl (.c rfl .n)) (.c (.t (.t (.t .h))) (.c (.t (.t .h)) .n)) (Ci _ _ _ _ (by assumption) (by assumption) (by assumption) _ (by omega)) (fun v8 B hv=>?_)
    obtain⟨y9,y10,rfl,y11,y12,y13,rfl⟩:=hv
    refine AQ (AB (.t7 2 4 8 9 18 19 20) ?_)
    refine AV (AV (AV (AA (AJ ?_))))
    refine Gt (Av rfl rfl (IntWalk.i64_in _ (by omega))) ?_
    refine Gm rfl ?_
    refine AQ (AB (.t7 2 4 8 9 18 19 20) ?_)
    refine CE (.c (.t (.t .h)) (.c (.t (.t .h)) (.c (.t .h) (.c .h (.c .h (.c .h (.c .h .n))))))) ?_
    refine CZ ?_
    refine CS _ _ _ _ _ _ _ _ ?_ ?_ (.t7 20 2 4 8 9 18 19) (.refl _)
    · exact⟨hI11.next (by omega) (by simp only [AP.step,c1,c2,c3,c5,c6,↓reduceIte,Bool.false_eq_true]) (by simp only [AP.step,c1,c2,c3,c5,c6,List.append_nil,↓reduceIte,Bool.false_eq_true]) (by simp only [AP.step,c1,c2,c3,c5,c6,List.append_nil,↓reduceIte,Bool.false_eq_true]),by assumption,by assumption,by assumption,by assumption,by assumption,by assumption⟩
    · omega
   have c6p:=kz c6
   refine Gs (Gm rfl (Gt (Af rfl rfl) (Ga rfl (Gn (.t9 2 4 8 9 12 18 19 20 43) ?_))))
   refine Gc (fun c7=>?_) (fun c7=>?_)
   ·
    have c7p:=kz c7
    refine AJ (Gt (Ai Fm rfl) ?_)
    refine AT (AK AP.l0 rfl rfl rfl C6 rfl (.t (.t (.t (.t .h))))) ?_
    refine AQ (AB (.t7 2 4 8 9 18 19 20) ?_)
    refine AV (AV (AV (AA (AJ ?_))))
    refine Gt (Av rfl rfl (IntWalk.i64_in _ (by omega))) ?_
    refine Gm rfl ?_
    refine AQ (AB (.t7 2 4 8 9 18 19 20) ?_)
    refine CS _ _ _ _ _ _ _ _ ?_ ?_ (.t7 20 2 4 8 9 18 19) (.refl _)
    · exact⟨hI11.next (by omega) (by simp only [AP.step,c1,c2,c3,c5,c6,c7,↓reduceIte,Bool.false_eq_true]) (by simp only [AP.step,c1,c2,c3,c5,c6,c7,List.append_nil,↓reduceIte,Bool.false_eq_true]) (by simp only [AP.step,c1,c2,c3,c5,c6,c7,List.append_nil,↓reduceIte,Bool.false_eq_true]),by assumption,by assumption,by assumption,by assumption,by assumption,by assumption⟩
    · omega
   have c7p:=kz c7
   refine Gs (Gm rfl (Gt (CK rfl rfl) (Ga rfl (Gn (.t9 2 4 8 9 12 18 19 20 47) ?_))))
   refine Gc (fun c8=>?_) (fun c8=>?_)
   ·
    have c8p:=kz c8
    refine AJ (Gm rfl (Gt (Ai Fm rfl) ?_))
    refine AT (AK AP.l0 rfl rfl rfl C6 rfl (.t (.t (.t (.t .h))))) ?_
    refine Gt (Ai Ko rfl) ?_
    refine AT (AK AP.l1 rfl rfl rfl C6 rfl (.t (.t (.t (.t .h))))) ?_
    refine AQ (AB (.t7 2 4 8 9 18 19 20) ?_)
    refine AV (AV (AV (AA (AJ ?_))))
    refine Gt (Av rfl rfl (IntWalk.i64_in _ (by omega))) ?_
    refine Gm rfl ?_
    refine AQ (AB (.t7 2 4 8 9 18 19 20) ?_)
    refine CS _ _ _ _ _ _ _ _ ?_ ?_ (.t7 20 2 4 8 9 18 19) (.refl _)
    · exact⟨hI11.next (by omega) (by simp only [AP.step,c1,c2,c3,c5,c6,c7,c8,↓reduceIte,Bool.false_eq_true]) (by simp only [AP.step,c1,c2,c3,c5,c6,c7,c8,List.append_nil,↓reduceIte,Bool.false_eq_true]) (by simp only [AP.step,c1,c2,c3,c5,c6,c7,c8,List.append_nil,↓reduceIte,Bool.false_eq_true]),by assumption,by assumption,by assumption,by assumption,by assumption,by assumption⟩
    · omega
   have c8p:=kz c8
   refine Aa ?_
   refine AB (.t7 2 4 8 9 18 19 20) ?_
   refine AV (AV (AV (AA (AJ ?_))))
   refine Gt (Av rfl rfl (IntWalk.i64_in _ (by omega))) ?_
   refine Gm rfl ?_
   refine AQ (AB (.t7 2 4 8 9 18 19 20) ?_)
   refine CS _ _ _ _ _ _ _ _ ?_ ?_ (.t7 20 2 4 8 9 18 19) (.refl _)
   · exact⟨hI11.next (by omega) (by simp only [AP.step,c1,c2,c3,c5,c6,c7,c8,↓reduceIte,Bool.false_eq_true]) (by simp only [AP.step,c1,c2,c3,c5,c6,c7,c8,List.append_nil,↓reduceIte,Bool.false_eq_true]) (by simp only [AP.step,c1,c2,c3,c5,c6,c7,c8,List.append_nil,↓reduceIte,Bool.false_eq_true]),by assumption,by assumption,by assumption,by assumption,by assumption,by assumption⟩
   · omega
  have c5p:=kz c5
  refine Gs (Gt (Af rfl rfl) (Ga rfl (Gn (.t11 2 4 8 9 11 12 18 19 20 27 53) ?_)))
  refine Gc (fun c9=>?_) (fun c9=>?_)
  ·
   have c9p:=kz c9
   refine Gs (Gt (Ai Ko rfl) (Gt (AG rfl A2 .m4 AP.l1 rfl rfl) (Gm rfl ?_)))
   refine Ah rfl dy (.c rfl (.c rfl (.c rfl .n))) (.c (.t (.t (.t (.t .h)))) .n) (JT _ _ _ _ (by first | assumption | omega)) (fun v14 B hv=>?_)
   obtain⟨rfl,rfl⟩:=hv
   refine Ah rfl Pp (.c rfl (.c rfl .n)) (.c (.t (.t .h)) (.c (.t .h) .n)) (BK _ _ _ _ (by assumption) (by assumption) (by assumption) _ (by have:=AP.IH t t.verb ((u.getD k.toNat 0).toNat:Int);omega)) (fun v15 B hv=>?_)
   obtain⟨y16,y17,rfl,y18,y19,y20,rfl⟩:=hv
   refine Gn (.t7 2 4 8 9 18 19 20) (AJ (Gt (Ai Fm rfl) ?_))
   refine AT (AK AP.l0 rfl rfl rfl C6 rfl (.t (.t .h))) ?_
   refine Gt (Ai Ko rfl) ?_
   refine AT (AK AP.l1 rfl rfl rfl C6 rfl (.t (.t .h))) ?_
   refine AQ (AB (.t7 2 4 8 9 18 19 20) ?_)
   refine AV (AV (AA (AJ ?_)))
   refine Gt (Av rfl rfl (IntWalk.i64_in _ (by omega))) ?_
   refine Gm rfl ?_
   refine AQ (AB (.t7 2 4 8 9 18 19 20) ?_)
   refine CE (.c (.t .h) (.c .h (.c (.t .h) (.c (.t .h) (.c .h (.c .h (.c .h .n))))))) ?_
   refine CZ ?_
   refine CS _ _ _ _ _ _ _ _ ?_ ?_ (.t7 20 2 4 8 9 18 19) (.refl _)
   · exact⟨hI11.next (by omega) (by simp only [AP.step,c1,c2,c3,c5,c9,↓reduceIte,Bool.false_eq_true]) (by simp only [AP.step,c1,c2,c3,c5,c9,List.append_nil,↓reduceIte,Bool.false_eq_true]) (by simp only [AP.step,c1,c2,c3,c5,c9,List.append_nil,↓reduceIte,Bool.false_eq_true]),by assumption,by assumption,by assumption,by assumption,by assumption,by assumption⟩
   · omega
  have c9p:=kz c9
  refine Gs (Gt (Af rfl rfl) (Ga rfl (Gn (.t11 2 4 8 9 11 12 18 19 20 27 62) ?_)))
  refine Gc (fun c10=>?_) (fun c10=>?_)
  ·
   have c10p:=kz c10
   refine Gs (Gm rfl (Gt (Af rfl rfl) (Gn (.t9 2 4 8 9 11 18 19 20 65) ?_)))
   refine Gc (fun c11=>?_) (fun c11=>?_)
   ·
    have c11p:=kz c11
    refine AJ (Gt (Ai Fm rfl) ?_)
    refine AT (AK AP.l0 rfl rfl rfl C6 rfl (.t (.t (.t (.t .h))))) ?_
    refine AQ (AB (.t7 2 4 8 9 18 19 20) ?_)
    refine AV (AV (AA (AJ ?_)))
    refine Gt (Av rfl rfl (IntWalk.i64_in _ (by omega))) ?_
    refine Gm rfl ?_
    refine AQ (AB (.t7 2 4 8 9 18 19 20) ?_)
    refine CS _ _ _ _ _ _ _ _ ?_ ?_ (.t7 20 2 4 8 9 18 19) (.refl _)
    · exact⟨hI11.next (by omega) (by simp only [AP.step,c1,c2,c3,c5,c9,c10,c11,↓reduceIte,Bool.false_eq_true]) (by simp only [AP.step,c1,c2,c3,c5,c9,c10,c11,List.append_nil,↓reduceIte,Bool.false_eq_true]) (by simp only [AP.step,c1,c2,c3,c5,c9,c10,c11,List.append_nil,↓reduceIte,Bool.false_eq_true]),by assumption,by assumption,by assumption,by assumption,by assumption,by assumption⟩
    · omega
   have c11p:=kz c11
   refine AJ (Gm rfl ?_)
   refine Ah rfl cj (.c rfl (.c rfl .n)) (.c (.t (.t (.t (.t .h)))) .n) (G8 _ _ _ (by first | assumption | omega)) (fun v21 B hv=>?_)
   obtain⟨rfl,rfl⟩:=hv
   refine AQ (AB (.t7 2 4 8 9 18 19 20) ?_)
   refine AV (AV (AA (AJ ?_)))
   refine Gt (Av rfl rfl (IntWalk.i64_in _ (by omega))) ?_
   refine Gm rfl ?_
   refine AQ (AB (.t7 2 4 8 9 18 19 20) ?_)
   refine CE (.c (.t .h) (.c (.t .h) (.c (.t .h) (.c (.t .h) (.c .h (.c .h (.c .h .n))))))) ?_
   refine CZ ?_
   refine CS _ _ _ _ _ _ _ _ ?_ ?_ (.t7 20 2 4 8 9 18 19) (.refl _)
   · exact⟨hI11.next (by omega) (by simp only [AP.step,c1,c2,c3,c5,c9,c10,c11,↓reduceIte,Bool.false_eq_true]) (by simp only [AP.step,c1,c2,c3,c5,c9,c10,c11,List.append_nil,↓reduceIte,Bool.false_eq_true]) (by simp only [AP.step,c1,c2,c3,c5,c9,c10,c11,List.append_nil,↓reduceIte,Bool.false_eq_true]),by assumption,by assumption,by assumption,by assumption,by assumption,by assumption⟩
   · omega
  have c10p:=kz c10
  refine Gs (Gt (Af rfl rfl) (Ga rfl (Gn (.t10 2 4 8 9 11 12 18 19 20 69) ?_)))
  refine Gc (fun c12=>?_) (fun c12=>?_)
  ·
   have c12p:=kz c12
   refine Gs (Gm rfl (Gn (.t10 2 4 8 9 11 12 18 19 20 71) (Ae (Gs (Gt (Af rfl rfl) (Ga rfl (Gn (.t10 2 4 8 9 11 12 18 19 20 77) ?_)))))))
   refine Gc (fun c13=>?_) (fun c13=>?_)
   ·
    have c13p:=kz c13
    refine Gs (Gt (Ai Fm rfl) ?_)
    refine AT (AK AP.l0 rfl rfl rfl C6 rfl (.t (.t (.t (.t .h))))) ?_
    refine Gn (.t8 2 4 8 9 11 18 19 20) (AJ (Gm rfl ?_))
    refine Ah rfl cj (.c rfl (.c rfl .n)) (.c (.t (.t (.t (.t .h)))) .n) (G8 _ _ _ (by first | assumption | omega)) (fun v22 B hv=>?_)
    obtain⟨rfl,rfl⟩:=hv
    refine AQ (AB (.t7 2 4 8 9 18 19 20) ?_)
    refine AV (AV (AV (AA (AJ ?_))))
    refine Gt (Av rfl rfl (IntWalk.i64_in _ (by omega))) ?_
    refine Gm rfl ?_
    refine AQ (AB (.t7 2 4 8 9 18 19 20) ?_)
    refine CE (.c (.t .h) (.c (.t .h) (.c (.t .h) (.c (.t .h) (.c .h (.c .h (.c .h .n))))))) ?_
    refine CZ ?_
    refine CS _ _ _ _ _ _ _ _ ?_ ?_ (.t7 20 2 4 8 9 18 19) (.refl _)
    · exact⟨hI11.next (by omega) (by simp only [AP.step,c1,c2,c3,c5,c9,c10,c12,c13,↓reduceIte,Bool.false_eq_true]) (by simp only [AP.step,c1,c2,c3,c5,c9,c10,c12,c13,List.append_nil,↓reduceIte,Bool.false_eq_true]) (by simp only [AP.step,c1,c2,c3,c5,c9,c10,c12,c13,List.append_nil,↓reduceIte,Bool.false_eq_true]),by assumption,by assumption,by assumption,by assumption,by assumption,by assumption⟩
    · omega
   have c13p:=kz c13
   refine CG (Gm rfl (Gt (Af rfl rfl) (Gn (.t8 2 4 8 9 18 19 20 73) ?_)))
   refine Gc (fun c14=>?_) (fun c14=>?_)
   ·
    have c14p:=kz c14
    refine AJ ?_
    refine Ah rfl dU (.c rfl .n) (.c (.t (.t (.t (.t .h)))) .n) (KV _ _) (fun v23 B hv=>?_)
    obtain⟨rfl,rfl⟩:=hv
    refine Gn (.t7 2 4 8 9 18 19 20) (AJ (Gt (Ai Fm rfl) ?_))
    refine AT (AK AP.l0 rfl rfl rfl C6 rfl .h) ?_
    refine Gt (Ai G2 rfl) ?_
    refine AT (AK AP.l2 rfl rfl rfl E5 rfl .h) ?_
    refine AQ (AB (.t7 2 4 8 9 18 19 20) ?_)
    refine AV (AV (AV (AA (AJ ?_))))
    refine Gt (Av rfl rfl (IntWalk.i64_in _ (by omega))) ?_
    refine Gm rfl ?_
    refine AQ (AB (.t7 2 4 8 9 18 19 20) ?_)
    refine CE (.c (.t .h) (.c (.t .h) (.c (.t .h) (.c (.t .h) (.c .h (.c .h (.c .h .n))))))) ?_
    refine CZ ?_
    refine CS _ _ _ _ _ _ _ _ ?_ ?_ (.t7 20 2 4 8 9 18 19) (.refl _)
    · exact⟨hI11.next (by omega) (by simp only [AP.step,c1,c2,c3,c5,c9,c10,c12,c13,c14,↓reduceIte,Bool.false_eq_true]) (by simp only [AP.step,c1,c2,c3,c5,c9,c10,c12,c13,c14,List.append_nil,↓reduceIte,Bool.false_eq_true]) (by simp only [AP.step,c1,c2,c3,c5,c9,c10,c12,c13,c14,List.append_nil,↓reduceIte,Bool.false_eq_true]),by assumption,by assumption,by assumption,by assumption,by assumption,by assumption⟩
    · omega
   have c14p:=kz c14
   refine Aa ?_
   refine AB (.t7 2 4 8 9 18 19 20) ?_
   refine AA (AJ (Gt (Ai Fm rfl) ?_))
   refine AT (AK AP.l0 rfl rfl rfl C6 rfl (.t (.t (.t (.t .h))))) ?_
   refine Gt (Ai G2 rfl) ?_
   refine AT (AK AP.l2 rfl rfl rfl E5 rfl (.t (.t (.t (.t .h))))) ?_
   refine AQ (AB (.t7 2 4 8 9 18 19 20) ?_)
   refine AV (AV (AV (AA (AJ ?_))))
   refine Gt (Av rfl rfl (IntWalk.i64_in _ (by omega))) ?_
   refine Gm rfl ?_
   refine AQ (AB (.t7 2 4 8 9 18 19 20) ?_)
   refine CS _ _ _ _ _ _ _ _ ?_ ?_ (.t7 20 2 4 8 9 18 19) (.refl _)
   · exact⟨hI11.next (by omega) (by simp only [AP.step,c1,c2,c3,c5,c9,c10,c12,c13,c14,↓reduceIte,Bool.false_eq_true]) (by simp only [AP.step,c1,c2,c3,c5,c9,c10,c12,c13,c14,List.append_nil,↓reduceIte,Bool.false_eq_true]) (by simp only [AP.step,c1,c2,c3,c5,c9,c10,c12,c13,c14,List.append_nil,↓reduceIte,Bool.false_eq_true]),by assumption,by assumption,by assumption,by assumption,by assumption,by assumption⟩
   · omega
  have c12p:=kz c12
  refine Aa ?_
  refine AB (.t7 2 4 8 9 18 19 20) ?_
  refine AV (AV (AA (AJ ?_)))
  refine Gt (Av rfl rfl (IntWalk.i64_in _ (by omega))) ?_
  refine Gm rfl ?_
  refine AQ (AB (.t7 2 4 8 9 18 19 20) ?_)
  refine CS _ _ _ _ _ _ _ _ ?_ ?_ (.t7 20 2 4 8 9 18 19) (.refl _)
  · exact⟨hI11.next (by omega) (by simp only [AP.step,c1,c2,c3,c5,c9,c10,c12,↓reduceIte,Bool.false_eq_true]) (by simp only [AP.step,c1,c2,c3,c5,c9,c10,c12,List.append_nil,↓reduceIte,Bool.false_eq_true]) (by simp only [AP.step,c1,c2,c3,c5,c9,c10,c12,List.append_nil,↓reduceIte,Bool.false_eq_true]),by assumption,by assumption,by assumption,by assumption,by assumption,by assumption⟩
  · omega
 have c2p:=kz c2
 refine Bb (AW (AW (Ag ?_)))
 refine AB (.t4 2 4 8 9) ?_
 refine AA (Ao ?_)
 refine BE (N:=7) [0,0,2,7,15,31,63] mix (by kernel_rfl) rfl ?_
 refine Pf 0 rfl (AZ rfl D5 .m4 (AU.id AP.fl.len AP.fl.one) rfl) ?_
 refine An 1 rfl (by kernel_rfl) ?_
 refine Ah rfl ZF (.c rfl .n) (.c (.t (.t (.t .h))) (.c (.t (.t .h)) .n)) (Cy _ _ _ _ (by assumption) (by assumption) (by omega)) (fun v24 B hv=>?_)
 obtain⟨rfl,rfl⟩:=hv
 refine Bq rfl ⟨?_,?_⟩
 · exact(Po rfl (AZ rfl D5 .m3 (AU.id AP.fl.len AP.fl.one) rfl) rfl rfl As)
 refine An 2 rfl (by kernel_rfl) ?_
 refine Ah rfl ZF (.c rfl .n) (.c (.t (.t .h)) (.c (.t .h) .n)) (Cy _ _ _ _ (by assumption) (by assumption) (by omega)) (fun v25 B hv=>?_)
 obtain⟨rfl,rfl⟩:=hv
 refine Bq rfl ⟨?_,?_⟩
 · exact(Po rfl (AZ rfl D5 .m2 (AU.id AP.fl.len AP.fl.one) rfl) rfl rfl As)
 refine An 3 rfl (by kernel_rfl) ?_
 refine AT (AK (AU.id AP.fl.len AP.fl.one) rfl rfl rfl KT rfl (.t (.t (.t (.t .h))))) ?_
 refine BN rfl ⟨?_,?_⟩
 · exact(Pk As)
 refine Pf 4 rfl (A0 rfl) (Pf 5 rfl (A0 rfl) (Pf 6 rfl (A0 rfl) ?_))
 refine A4 (by kernel_rfl) ?_
 refine AB (.t4 4 5 6 7) ?_
 refine AA (Ac ?_)
 refine AY rfl (.cell rfl .m4 (.inl ⟨(by rw [AP.fl.len];exact D5),rfl⟩) (.tmp rfl (.tmp rfl (.tmp rfl .n)))) ?_
 intro w1 hS;refine⟨?_,hS.Am⟩;rw [show X.Dg u=_ from AX c1,hI11.done (by omega)];rfl
theorem G4 (b:UInt8)(w:World):Ed Tryz.prog 70 #[.int .u8 (b.toNat:Int)] w fun v w'=>v = .bool (Bi.Fu b)∧CA w w':=by
 refine Ak [] [] Tryz.func70 rfl rfl rfl (St.start w []) ?_
 refine Gs (Ga rfl (Gn (.t1 0) (Gs (Gm rfl (Gt (CK rfl rfl) (Gm rfl (Bf 5 rfl rfl (fun q=>AF rfl) ?_)))))))
 refine Bf 5 rfl rfl (fun q=>A7 (Bc rfl q) rfl) (Gt (BG rfl rfl (fun h=>h)) (Ga rfl (Gn (.t1 2) (Ac ?_))))
 refine AY rfl (.tmp rfl .n) ?_
 intro w1 hS;refine⟨?_,hS.Am⟩;rfl
end Go.Proofs.YtoidpggbbfncpaaGreatDoor
