/- What the functions that the law HousePlays reaches compute: walks, part 13. No condition. -/
import Derived.Test.YtlmmdjaoikaceaaGreatDoorCards
import Derived.Test.YtlmmdjaoikaceaaGreatDoorTie
import Derived.Deep.DeepHandedRow
import Derived.Test.YtlmmdjaoikaceaaGreatDoorRows
import Derived.Test.YtlmmdjaoikaceaaGreatDoorHousePlaysEc3
import Derived.Test.YtlmmdjaoikaceaaGreatDoorHousePlaysRa1
import Derived.Test.YtlmmdjaoikaceaaGreatDoorHousePlaysRb1
import Derived.Test.YtlmmdjaoikaceaaGreatDoorHousePlaysRc1
import Derived.Test.YtlmmdjaoikaceaaGreatDoorHousePlaysRd1
import Derived.Test.YtlmmdjaoikaceaaGreatDoorHousePlaysWalks
import Derived.Test.YtlmmdjaoikaceaaGreatDoorHousePlaysWalks6
import Derived.Test.YtlmmdjaoikaceaaGreatDoorHousePlaysWalks8
import Derived.Test.YtlmmdjaoikaceaaGreatDoorHousePlaysWalks10
import Derived.Test.YtlmmdjaoikaceaaGreatDoorHousePlaysWalks11
import Derived.Test.YtlmmdjaoikaceaaGreatDoorHousePlaysWalks12
set_option linter.unusedSimpArgs false
set_option linter.unusedVariables false
set_option maxRecDepth 100000
set_option maxHeartbeats 4000000
namespace Go.Proofs.YtlmmdjaoikaceaaGreatDoor
open Go Go.Ing Go.RowKit Go.ChangeShapes Go.WideShapes Go.ChangeAt
theorem Md (b:Nat)(V:AE)(ls:Vector Ae 4)(ev:List Ing.Event)(a:CD)(hL:AG.Live (AO V ls ev))(h4:V.Bp≤400)(hu:a.bytes.length≤140737488351232):Cz Tryz.prog 7 #[.pointer (some ⟨b,0,none⟩), .agg a.enc.toArray] [AJ.box b 65 (AE.enc V),AJ.CI (BB 9 (AE.AP V) ls),AJ.own (AE.last V) 100 16 ((ev).flatMap Ing.Event.enc)] (fun w=>(GV 3 EH w∧3 ∉ BV [AJ.box b 65 (AE.enc V),AJ.CI (BB 9 (AE.AP V) ls),AJ.own (AE.last V) 100 16 ((ev).flatMap Ing.Event.enc)])∧(GV 1 AD.Be w∧1 ∉ BV [AJ.box b 65 (AE.enc V),AJ.CI (BB 9 (AE.AP V) ls),AJ.own (AE.last V) 100 16 ((ev).flatMap Ing.Event.enc)])∧(GV 0 AD.Be w∧0 ∉ BV [AJ.box b 65 (AE.enc V),AJ.CI (BB 9 (AE.AP V) ls),AJ.own (AE.last V) 100 16 ((ev).flatMap Ing.Event.enc)])∧(Eo 8 w∧8 ∉ BV [AJ.box b 65 (AE.enc V),AJ.CI (BB 9 (AE.AP V) ls),AJ.own (AE.last V) 100 16 ((ev).flatMap Ing.Event.enc)])∧(Eo 9 w∧9 ∉ BV [AJ.box b 65 (AE.enc V),AJ.CI (BB 9 (AE.AP V) ls),AJ.own (AE.last V) 100 16 ((ev).flatMap Ing.Event.enc)])) (fun v B=>∃ V' ls' ev',v = .agg (Cg.enc (AG.act (AO V ls ev) a).2).toArray∧AO V' ls' ev'=(AG.act (AO V ls ev) a).1∧B = [AJ.box b 65 (AE.enc V'),AJ.CI (BB 9 (AE.AP V') ls'),AJ.own (AE.last V') 100 16 ((ev').flatMap Ing.Event.enc)]):=by
 intro w hS0 hH
 obtain⟨⟨gl0,gm0⟩,⟨gl1,gm1⟩,⟨gl2,gm2⟩,⟨gl3,gm3⟩,⟨gl4,gm4⟩⟩:=hH
 obtain⟨n,m,hF⟩:=hL.fits
 have hc:0≤V.Bp:=hL.Bp
 refine AR _ _ Tryz.func7 J J J (hS0) ?_
 refine W ?_
 intro b1 b2
 refine⟨fun c1 c1p=>?_,fun c1 c1p=>?_⟩
 ·
  refine W ?_
  refine Cl .n (CU _) (fun v1 B hv=>?_)
  obtain⟨rfl,rfl⟩:=hv
  refine W ?_
  intro w1 hS
  have hS:=(hS.perm (AK.perm (.c (.t (.t .h)) (.c (.t (.t .h)) (.c (.t (.t .h)) .n))))).AM
  have hq:(AG.act (AO V ls ev) a)=((AO V ls ev),⟨4,[]⟩):=if_pos (decide_eq_true (show 400≤V.Bp by omega))
  refine⟨_,⟨V,ls,ev,?gv1,?ga1,J⟩,hS⟩
  case gv1=>rw [hq];rfl
  case ga1=>rw [hq]
 refine Ws 6 ?_
 refine CG Ing.Event.enc 100 16 ?_
 refine By (.c (.t (.t (.t .h))) (.c (.t (.t (.t .h))) (.c .h .n))) ?_
 refine W ?_
 refine Af (.t5 37 0 3 4 5) ?_
 refine AY (.t (.t .h)) ?_
 refine AY (.t (.t .h)) ?_
 refine AY (.t (.t .h)) ?_
 refine D2 (fun(i:Int) (V1:AE) (ls1:Vector Ae 4) (ev1:List Ing.Event)=>0≤i∧i≤4∧(AO V1 ls1 ev1)=AG.Dz ({ (AO V ls ev) with Bp:=((AO V ls ev)).Bp+1,last:= [] }:AG) i.toNat) (fun(i:Int) (V1:AE) (ls1:Vector Ae 4) (ev1:List Ing.Event)=>(4 - i).toNat) (fun(i:Int) (V1:AE) (ls1:Vector Ae 4) (ev1:List Ing.Event)=> [(37, .int .i64 i)]) (fun(i:Int) (V1:AE) (ls1:Vector Ae 4) (ev1:List Ing.Event)=> [AJ.box b 65 (AE.enc V1),AJ.CI (BB 9 (AE.AP V1) ls1),AJ.own (AE.last V1) 100 16 (ev1.flatMap Ing.Event.enc)]) (0) (_) (ls) ([]) ?_ J J (fun i V1 ls1 ev1 hI1=>?_)
 · exact⟨by omega,by omega,rfl⟩
 obtain⟨hI11,hI12,hI13⟩:=hI1
 refine W ?_
 refine⟨fun c2 c2p=>?_,fun c2 c2p=>?_⟩
 ·
  have hi:0≤i∧i < 4:=⟨by omega,by omega⟩
  refine Ws 9 ?_
  refine Cj (k:=i) hi.1 hi.2 (fun sv sl hsv hlv hln=>?_)
  refine Ws 10 ?_
  refine CG AX 9 1 ?_
  refine By (.c (.t .h) (.c (.t .h) (.c .h (.c (.t .h) (.c (.t .h) .n))))) ?_
  refine Ct hi.1 hi.2 (by rfl) (by rfl) (by rfl) ?_
  refine W ?_
  refine Ar (.c .h (.c .h (.c (.t .h) (.c (.t .h) (.c (.t .h) (.c (.t .h) .n)))))) ?_
  refine Az ?_
  refine BR (i+1) _ _ _ ?_ ?_ (.t5 37 0 3 4 5) (.refl _)
  · exact⟨by omega,by omega,(B4 hi.1 hi.2 hsv hlv (f:=fun x=>{ x with told:= [] }) rfl).trans (by rw [hI13];exact(AG.Mu hI11).symm)⟩
  · omega
 obtain rfl:i=4:=by omega
 have hX:(AO V1 ls1 ev1)=(AG.begun (AO V ls ev)):=hI13
 have hF0:AG.Fit (AO V1 ls1 ev1) 0 0:=by rw [hX];exact hF.begun
 have hO1:AG.JN (AO V1 ls1 ev1):=by rw [hX];exact hL.jN.begun
 refine W ?_
 refine⟨fun c3 c3p=>?_,fun c3 c3p=>?_⟩
 ·
  refine W ?_
  refine Cl .n (CU _) (fun v3 B hv=>?_)
  obtain⟨rfl,rfl⟩:=hv
  refine W ?_
  intro w1 hS
  have hS:=(hS.perm (AK.perm (.c .h (.c .h (.c .h .n))))).AM
  have hq0:AG.D3 (AO V1 ls1 ev1) a=_:=(AN c3)
  have hq:(AG.act (AO V ls ev) a)=_:=(AG.FT (H:=(AO V ls ev)) (show V.Bp < 400 by omega) a).trans ((congrArg (fun X=>AG.D3 X a) hX.symm).trans hq0)
  refine⟨_,⟨V1,ls1,ev1,?gv2,?ga2,J⟩,hS⟩
  case gv2=>rw [hq];rfl
  case ga2=>rw [hq]
 refine W ?_
 refine⟨fun c4 c4p=>?_,fun c4 c4p=>?_⟩
 ·
  refine W ?_
  refine Af (.t5 60 0 3 4 5) ?_
  refine AY (.t (.t .h)) ?_
  refine AY (.t (.t .h)) ?_
  refine AY (.t (.t .h)) ?_
  refine D2 (fun(j:Int) (V2:AE) (ls2:Vector Ae 4) (ev2:List Ing.Event)=>0≤j∧j≤4∧(AO V2 ls2 ev2)=AG.turns (AO V1 ls1 ev1) j.toNat) (fun(j:Int) (V2:AE) (ls2:Vector Ae 4) (ev2:List Ing.Event)=>(4 - j).toNat) (fun(j:Int) (V2:AE) (ls2:Vector Ae 4) (ev2:List Ing.Event)=> [(60, .int .i64 j)]) (fun(j:Int) (V2:AE) (ls2:Vector Ae 4) (ev2:List Ing.Event)=> [AJ.box b 65 (AE.enc V2),AJ.CI (BB 9 (AE.AP V2) ls2),AJ.own (AE.last V2) 100 16 (ev2.flatMap Ing.Event.enc)]) (0) (V1) (ls1) (ev1) ?_ J J (fun j V2 ls2 ev2 hI2=>?_)
  · exact⟨by omega,by omega,rfl⟩
  obtain⟨hI21,hI22,hI23⟩:=hI2
  refine W ?_
  refine⟨fun c5 c5p=>?_,fun c5 c5p=>?_⟩
  ·
   have hj:0≤j∧j < 4:=⟨by omega,by omega⟩
   refine W ?_
   refine Cm (.c .h (.c .h (.c .h .n))) (LD _ V2 ls2 ev2 j 44 44 hj (by rw [hI23];exact(AG.HQ hF0 j.toNat (by omega)).mono (by omega) (by omega)) (by omega) (by omega)) (fun v4 B hv=>?_)
   obtain⟨y5,y6,y7,rfl,y8,rfl⟩:=hv
   refine W ?_
   refine BR (j+1) _ _ _ ?_ ?_ (.t5 60 0 3 4 5) (.refl _)
   · exact⟨by omega,by omega,y8.trans (by rw [hI23];exact(QJ hI21).symm)⟩
   · omega
  obtain rfl:j=4:=by omega
  have hF1:=AG.HQ hF0 4 (Nat.le_refl 4)
  rw [show(4:Nat)=(4:Int).toNat from rfl,← hI23] at hF1
  have hrl:(AA.BX V2.w a.n).2.1.length≤78:=AA.NR hF1.Fp.Gb a.n
  have hrs:=AA.L1 (draw:=a.n) hF1.Fp
  have hF4:=((hF1.land hrs.1).Ft hrs.2).mono (Nat.add_le_add_left hrl _) (Nat.add_le_add_left hrl _)
  refine W ?_
  refine Ey 6 11 J J (by kernel_rfl) ?_ ?_
  ·
   refine W ?_
   refine Cm .n (I5 V2.w a.n hF1.Fp.Gb) (fun v9 B hv=>?_)
   obtain⟨y10,rfl,y11,rfl⟩:=hv
   refine W ?_
   intro b3
   refine Cm (.c (.t (.t .h)) (.c (.t (.t .h)) (.c (.t (.t .h)) (.c (.t .h) .n)))) (Bv _ { V2 with w:=(AA.BX V2.w a.n).1 } ls2 ev2 _ (AA.BX V2.w a.n).2.1 _ (by assumption) (Cx hF1) (by omega) (Nat.le_trans hF1.last (by omega)) hrs.2) (fun v13 B hv=>?_)
   obtain⟨y14,y15,y16,rfl,y17,rfl⟩:=hv
   refine W ?_
   refine Cm (.c .h (.c .h (.c .h .n))) (Bg _ y14 y15 y16 _ _ (by rw [y17];exact hF4) (by omega) (by omega)) (fun v18 B hv=>?_)
   obtain⟨y19,y20,y21,rfl,y22,rfl⟩:=hv
   refine W ?_
   refine Cl .n (CU _) (fun v23 B hv=>?_)
   obtain⟨rfl,rfl⟩:=hv
   refine W ?_
   intro w1 hS
   have hS:=(hS.perm (AK.perm (.c .h (.c .h (.c .h .n))))).AM
   have hq0:AG.D3 (AO V1 ls1 ev1) a=_:=((AB c3).trans (AN c4))
   have hq:(AG.act (AO V ls ev) a)=_:=(AG.FT (H:=(AO V ls ev)) (show V.Bp < 400 by omega) a).trans ((congrArg (fun X=>AG.D3 X a) hX.symm).trans hq0)
   refine⟨_,⟨y19,y20,y21,?gv3,?ga3,J⟩,hS⟩
   case gv3=>rw [hq];rfl
   case ga3=>rw [hq];dsimp only;rw [y22,y17,JS];show AG.BJ (AG.Ft { (AO V2 ls2 ev2) with w:=(AA.BX ((AO V2 ls2 ev2)).w a.n).1 } (AA.BX ((AO V2 ls2 ev2)).w a.n).2.1)=_;rw [hI23];rfl
  ·
   refine W ?_
   intro b4
   refine Cm .n (I5 V2.w a.n hF1.Fp.Gb) (fun v24 B hv=>?_)
   obtain⟨y25,rfl,y26,rfl⟩:=hv
   refine W ?_
   refine Cm (.c (.t (.t .h)) (.c (.t (.t .h)) (.c (.t (.t .h)) (.c .h .n)))) (Bv _ { V2 with w:=(AA.BX V2.w a.n).1 } ls2 ev2 _ (AA.BX V2.w a.n).2.1 _ (by assumption) (Cx hF1) (by omega) (Nat.le_trans hF1.last (by omega)) hrs.2) (fun v28 B hv=>?_)
   obtain⟨y29,y30,y31,rfl,y32,rfl⟩:=hv
   refine W ?_
   refine Cm (.c .h (.c .h (.c .h .n))) (Bg _ y29 y30 y31 _ _ (by rw [y32];exact hF4) (by omega) (by omega)) (fun v33 B hv=>?_)
   obtain⟨y34,y35,y36,rfl,y37,rfl⟩:=hv
   refine W ?_
   refine Cl .n (CU _) (fun v38 B hv=>?_)
   obtain⟨rfl,rfl⟩:=hv
   refine W ?_
   intro w1 hS
   have hS:=(hS.perm (AK.perm (.c .h (.c .h (.c .h .n))))).AM
   have hq0:AG.D3 (AO V1 ls1 ev1) a=_:=((AB c3).trans (AN c4))
   have hq:(AG.act (AO V ls ev) a)=_:=(AG.FT (H:=(AO V ls ev)) (show V.Bp < 400 by omega) a).trans ((congrArg (fun X=>AG.D3 X a) hX.symm).trans hq0)
   refine⟨_,⟨y34,y35,y36,?gv4,?ga4,J⟩,hS⟩
   case gv4=>rw [hq];rfl
   case ga4=>rw [hq];dsimp only;rw [y37,y32,JS];show AG.BJ (AG.Ft { (AO V2 ls2 ev2) with w:=(AA.BX ((AO V2 ls2 ev2)).w a.n).1 } (AA.BX ((AO V2 ls2 ev2)).w a.n).2.1)=_;rw [hI23];rfl
 refine W ?_
 refine⟨fun c6 c6p=>?_,fun c6 c6p=>?_⟩
 ·
  refine W ?_
  refine Cl .n (CU _) (fun v39 B hv=>?_)
  obtain⟨rfl,rfl⟩:=hv
  refine W ?_
  intro w1 hS
  have hS:=(hS.perm (AK.perm (.c .h (.c .h (.c .h .n))))).AM
  have hq0:AG.D3 (AO V1 ls1 ev1) a=_:=((AB c3).trans ((AB c4).trans (AN c6)))
  have hq:(AG.act (AO V ls ev) a)=_:=(AG.FT (H:=(AO V ls ev)) (show V.Bp < 400 by omega) a).trans ((congrArg (fun X=>AG.D3 X a) hX.symm).trans hq0)
  refine⟨_,⟨V1,ls1,ev1,?gv5,?ga5,J⟩,hS⟩
  case gv5=>rw [hq];rfl
  case ga5=>rw [hq]
 have hs:0≤a.AZ∧a.AZ < 4:=⟨by omega,by omega⟩
 refine W ?_
 refine⟨fun c7 c7p=>?_,fun c7 c7p=>?_⟩
 ·
  refine W ?_
  refine Cl .n (CU _) (fun v40 B hv=>?_)
  obtain⟨rfl,rfl⟩:=hv
  refine W ?_
  intro w1 hS
  have hS:=(hS.perm (AK.perm (.c .h (.c .h (.c .h .n))))).AM
  have hq0:AG.D3 (AO V1 ls1 ev1) a=_:=((AB c3).trans ((AB c4).trans ((AB c6).trans (AN (show((decide (a.kind=1) && !decide ((AG.at_ (AO V1 ls1 ev1) a.AZ).state=0)) || (!decide (a.kind=1) && decide ((AG.at_ (AO V1 ls1 ev1) a.AZ).state=0)))=true by rw [DP V1 ls1 ev1 hs.1 hs.2];exact c7)))))
  have hq:(AG.act (AO V ls ev) a)=_:=(AG.FT (H:=(AO V ls ev)) (show V.Bp < 400 by omega) a).trans ((congrArg (fun X=>AG.D3 X a) hX.symm).trans hq0)
  refine⟨_,⟨V1,ls1,ev1,?gv6,?ga6,J⟩,hS⟩
  case gv6=>rw [hq];rfl
  case ga6=>rw [hq]
 refine W ?_
 refine⟨fun c8 c8p=>?_,fun c8 c8p=>?_⟩
 ·
  refine Ws 32 ?_
  refine Cj (k:=a.AZ) hs.1 hs.2 (fun sv sl hsv hlv hln=>?_)
  refine W ?_
  refine Im (cs:=BO (n:=6) AT (Vector.replicate 6 default)) (cs':=(([255,251,3,255,253,31]:List Int).flatMap AT)) J Tryz.underlying117 ba bc (by decide) (by decide) (by kernel_rfl) (.cons (Ac.arr (n:=6) (i:=0) Bm (by decide) (by decide)) J J J (.cons (Ac.arr (n:=6) (i:=1) Bm (by decide) (by decide)) J J J (.cons (Ac.arr (n:=6) (i:=2) Bm (by decide) (by decide)) J J J (.cons (Ac.arr (n:=6) (i:=3) Bm (by decide) (by decide)) J J J (.cons (Ac.arr (n:=6) (i:=4) Bm (by decide) (by decide)) J J J (.cons (Ac.arr (n:=6) (i:=5) Bm (by decide) (by decide)) J J J .nil)))))) J (fun b5=>?_)
  refine W ?_
  refine Cp (fun w hS=>Bc _ [255,251,3,255,253,31] (by decide) (by decide) w ((Kn.own .m0) w hS)) ?_
  refine Ws 35 ?_
  refine CY (c':=Fw V1 a.AZ (Df (CJ 2).1 (CJ 2).2)) (fun _=>(.t (.t (.t (.t .h))))) ?_ ?_
  · exact congrArg (Fw V1 a.AZ) (by kernel_rfl)
  refine CG AX 9 1 ?_
  refine CG AX 9 1 ?_
  refine CG AX 9 1 ?_
  refine By (.c (.t (.t .h)) (.c (.t .h) (.c .h (.c (.t (.t (.t (.t .h)))) (.c (.t (.t (.t (.t .h)))) .n))))) ?_
  refine Ct hs.1 hs.2 (by rfl) (by rfl) (by rfl) ?_
  refine W ?_
  refine Cl (.c .h (.c .h (.c (.t (.t (.t (.t .h)))) .n))) (B5 _ (AE.AZ V1 a.AZ (Df (CJ 2).1 (CJ 2).2)) (ls1.put a.AZ ⟨[],[],[]⟩) ev1 a.AZ _ hs (by rw [Vector.Bi hs.1 hs.2];exact Nat.zero_le _)) (fun v44 B hv=>?_)
  obtain⟨y45,y46,y47,rfl,y48,rfl⟩:=hv
  refine W ?_
  refine Cm (.c .h (.c .h (.c .h .n))) (Bg _ y45 y46 y47 1 0 (by rw [y48,(show AO (AE.AZ V1 a.AZ (Df (CJ 2).1 (CJ 2).2)) (ls1.put a.AZ ⟨[],[],[]⟩) ev1=AG.set (AO V1 ls1 ev1) a.AZ (Bz (Df (CJ 2).1 (CJ 2).2) aF) from F3 V1 ls1 ev1 hs.1 hs.2 _ _)];exact(hF0.comes hs.1 hs.2 _ _).tell hs.1 hs.2 (show AG.CS.length≤_ by decide)) (by omega) (by omega)) (fun v49 B hv=>?_)
  obtain⟨y50,y51,y52,rfl,y53,rfl⟩:=hv
  refine W ?_
  intro w1 hS
  have hS:=(hS.perm (AK.perm (.c .h (.c .h (.c .h .n))))).AM
  have hq0:AG.D3 (AO V1 ls1 ev1) a=_:=((AB c3).trans ((AB c4).trans ((AB c6).trans ((AB (show((decide (a.kind=1) && !decide ((AG.at_ (AO V1 ls1 ev1) a.AZ).state=0)) || (!decide (a.kind=1) && decide ((AG.at_ (AO V1 ls1 ev1) a.AZ).state=0)))=false by rw [DP V1 ls1 ev1 hs.1 hs.2];exact c7)).trans (AN c8)))))
  have hq:(AG.act (AO V ls ev) a)=_:=(AG.FT (H:=(AO V ls ev)) (show V.Bp < 400 by omega) a).trans ((congrArg (fun X=>AG.D3 X a) hX.symm).trans hq0)
  refine⟨_,⟨y50,y51,y52,?gv7,?ga7,J⟩,hS⟩
  case gv7=>rw [hq];rfl
  case ga7=>rw [hq];dsimp only;rw [y53,y48,(show AO (AE.AZ V1 a.AZ (Df (CJ 2).1 (CJ 2).2)) (ls1.put a.AZ ⟨[],[],[]⟩) ev1=AG.set (AO V1 ls1 ev1) a.AZ (Bz (Df (CJ 2).1 (CJ 2).2) aF) from F3 V1 ls1 ev1 hs.1 hs.2 _ _)];unfold AG.QZ;rw [← Ly];rfl
 refine W ?_
 refine⟨fun c9 c9p=>?_,fun c9 c9p=>?_⟩
 ·
  refine Ws 37 ?_
  refine Cj (k:=a.AZ) hs.1 hs.2 (fun sv sl hsv hlv hln=>?_)
  try have:=AI.Qn sv.Da a.bytes
  refine W ?_
  intro b6
  refine Cm .n (Mb _ _ _ (by have h:=Qm sv.Da a.bytes;omega) (by intro x hx;have h:=(hF0.queue a.AZ hs.1 hs.2).2 x (by rw [Bu V1 ls1 ev1 hs.1 hs.2,hlv];exact hx);omega) (show sv.Ax.now.length≤9223372036854775807 from dJ hs.1 hs.2 hO1 hsv) (by have h:=(hF0.queue a.AZ hs.1 hs.2).1;rw [Bu V1 ls1 ev1 hs.1 hs.2,hlv] at h;exact Nat.le_trans h (by decide))) (fun v54 B hv=>?_) (fun _=>(fun w hS=>(Kn.own .m1) w hS))
  rcases hv with ⟨y55,rfl,rfl⟩ | ⟨y56,y57,rfl,y58,rfl⟩
  ·
   refine Ws 48 ?_
   intro b7
   refine By (.c (.t (.t .h)) (.c (.t (.t .h)) (.c (.t (.t .h)) (.c (.t (.t .h)) (.c (.t (.t .h)) .n))))) ?_
   refine Ct hs.1 hs.2 (by rfl) (by rfl) (by rfl) ?_
   refine W ?_
   refine Cm (.c .h (.c .h (.c (.t (.t .h)) .n))) (Bg _ (AE.AZ V1 a.AZ (heard sv a.bytes)) (ls1.put a.AZ ⟨sl.queue,sl.wait,sl.told⟩) ev1 0 0 (Gc hs.1 hs.2 (DL (V:=V1) (ls:=ls1) (ev:=ev1) hs.1 hs.2 hsv hlv (Jm (u:=a.bytes) hln.2.1 hln.1 y55)) hF0) (by omega) (by omega)) (fun v60 B hv=>?_)
   obtain⟨y61,y62,y63,rfl,y64,rfl⟩:=hv
   refine W ?_
   intro w1 hS
   have hS:=(hS.perm (AK.perm (.c .h (.c .h (.c .h .n))))).AM
   have hq0:AG.D3 (AO V1 ls1 ev1) a=_:=((AB c3).trans ((AB c4).trans ((AB c6).trans ((AB (show((decide (a.kind=1) && !decide ((AG.at_ (AO V1 ls1 ev1) a.AZ).state=0)) || (!decide (a.kind=1) && decide ((AG.at_ (AO V1 ls1 ev1) a.AZ).state=0)))=false by rw [DP V1 ls1 ev1 hs.1 hs.2];exact c7)).trans ((AB c8).trans (AN c9))))))
   have hq:(AG.act (AO V ls ev) a)=_:=(AG.FT (H:=(AO V ls ev)) (show V.Bp < 400 by omega) a).trans ((congrArg (fun X=>AG.D3 X a) hX.symm).trans hq0)
   refine⟨_,⟨y61,y62,y63,?gv8,?ga8,J⟩,hS⟩
   case gv8=>rw [hq];rfl
   case ga8=>rw [hq];dsimp only;exact Iq hs.1 hs.2 (DL (V:=V1) (ls:=ls1) (ev:=ev1) hs.1 hs.2 hsv hlv (Jm (u:=a.bytes) hln.2.1 hln.1 y55)) (.inr ⟨(show decide ((0:Int) < 0)=false from rfl),rfl⟩) y64
  refine W ?_
  intro b8
  refine⟨fun c10 c10p=>?_,fun c10 c10p=>?_⟩
  ·
   refine Ws 43 ?_
   refine By (.c (.t .h) (.c (.t (.t (.t .h))) (.c (.t (.t (.t .h))) (.c (.t (.t (.t .h))) (.c (.t (.t (.t .h))) .n))))) ?_
   refine Ct hs.1 hs.2 (by rfl) (by rfl) (by rfl) ?_
   refine W ?_
   refine Cl (.c .h (.c .h (.c (.t (.t (.t .h))) .n))) (B5 _ (AE.AZ V1 a.AZ { heard sv a.bytes with Ax:=⟨(Aa.feed (Aa.start sv.Ax sl.queue) (sv.Da.CM a.bytes).2.1).now,(Aa.feed (Aa.start sv.Ax sl.queue) (sv.Da.CM a.bytes).2.1).long,(Aa.feed (Aa.start sv.Ax sl.queue) (sv.Da.CM a.bytes).2.1).ret,y57⟩ }) (ls1.put a.AZ ⟨(Aa.feed (Aa.start sv.Ax sl.queue) (sv.Da.CM a.bytes).2.1).queue,sl.wait,sl.told⟩) ev1 a.AZ _ hs (Nat.le_trans (Cx (Gc hs.1 hs.2 (DL (V:=V1) (ls:=ls1) (ev:=ev1) hs.1 hs.2 hsv hlv (EB (u:=a.bytes) hln.2.1 hln.1 y56 y57)) hF0) a.AZ hs.1 hs.2) (by omega))) (fun v65 B hv=>?_)
   obtain⟨y66,y67,y68,rfl,y69,rfl⟩:=hv
   refine W ?_
   refine Cm (.c .h (.c .h (.c .h .n))) (Bg _ y66 y67 y68 1 0 (by rw [y69];exact(Gc hs.1 hs.2 (DL (V:=V1) (ls:=ls1) (ev:=ev1) hs.1 hs.2 hsv hlv (EB (u:=a.bytes) hln.2.1 hln.1 y56 y57)) hF0).tell hs.1 hs.2 (show AG.Tl.length≤_ by decide)) (by omega) (by omega)) (fun v70 B hv=>?_)
   obtain⟨y71,y72,y73,rfl,y74,rfl⟩:=hv
   refine W ?_
   intro w1 hS
   have hS:=(hS.perm (AK.perm (.c .h (.c .h (.c .h .n))))).AM
   have hq0:AG.D3 (AO V1 ls1 ev1) a=_:=((AB c3).trans ((AB c4).trans ((AB c6).trans ((AB (show((decide (a.kind=1) && !decide ((AG.at_ (AO V1 ls1 ev1) a.AZ).state=0)) || (!decide (a.kind=1) && decide ((AG.at_ (AO V1 ls1 ev1) a.AZ).state=0)))=false by rw [DP V1 ls1 ev1 hs.1 hs.2];exact c7)).trans ((AB c8).trans (AN c9))))))
   have hq:(AG.act (AO V ls ev) a)=_:=(AG.FT (H:=(AO V ls ev)) (show V.Bp < 400 by omega) a).trans ((congrArg (fun X=>AG.D3 X a) hX.symm).trans hq0)
   refine⟨_,⟨y71,y72,y73,?gv9,?ga9,J⟩,hS⟩
   case gv9=>rw [hq];rfl
   case ga9=>rw [hq];dsimp only;exact Iq hs.1 hs.2 (DL (V:=V1) (ls:=ls1) (ev:=ev1) hs.1 hs.2 hsv hlv (EB (u:=a.bytes) hln.2.1 hln.1 y56 y57)) (.inl ⟨c10,y69⟩) y74
  refine Ws 48 ?_
  refine By (.c (.t .h) (.c (.t (.t (.t .h))) (.c (.t (.t (.t .h))) (.c (.t (.t (.t .h))) (.c (.t (.t (.t .h))) .n))))) ?_
  refine Ct hs.1 hs.2 (by rfl) (by rfl) (by rfl) ?_
  refine W ?_
  refine Cm (.c .h (.c .h (.c (.t (.t (.t .h))) .n))) (Bg _ (AE.AZ V1 a.AZ { heard sv a.bytes with Ax:=⟨(Aa.feed (Aa.start sv.Ax sl.queue) (sv.Da.CM a.bytes).2.1).now,(Aa.feed (Aa.start sv.Ax sl.queue) (sv.Da.CM a.bytes).2.1).long,(Aa.feed (Aa.start sv.Ax sl.queue) (sv.Da.CM a.bytes).2.1).ret,y57⟩ }) (ls1.put a.AZ ⟨(Aa.feed (Aa.start sv.Ax sl.queue) (sv.Da.CM a.bytes).2.1).queue,sl.wait,sl.told⟩) ev1 0 0 (Gc hs.1 hs.2 (DL (V:=V1) (ls:=ls1) (ev:=ev1) hs.1 hs.2 hsv hlv (EB (u:=a.bytes) hln.2.1 hln.1 y56 y57)) hF0) (by omega) (by omega)) (fun v75 B hv=>?_)
  obtain⟨y76,y77,y78,rfl,y79,rfl⟩:=hv
  refine W ?_
  intro w1 hS
  have hS:=(hS.perm (AK.perm (.c .h (.c .h (.c .h .n))))).AM
  have hq0:AG.D3 (AO V1 ls1 ev1) a=_:=((AB c3).trans ((AB c4).trans ((AB c6).trans ((AB (show((decide (a.kind=1) && !decide ((AG.at_ (AO V1 ls1 ev1) a.AZ).state=0)) || (!decide (a.kind=1) && decide ((AG.at_ (AO V1 ls1 ev1) a.AZ).state=0)))=false by rw [DP V1 ls1 ev1 hs.1 hs.2];exact c7)).trans ((AB c8).trans (AN c9))))))
  have hq:(AG.act (AO V ls ev) a)=_:=(AG.FT (H:=(AO V ls ev)) (show V.Bp < 400 by omega) a).trans ((congrArg (fun X=>AG.D3 X a) hX.symm).trans hq0)
  refine⟨_,⟨y76,y77,y78,?gv10,?ga10,J⟩,hS⟩
  case gv10=>rw [hq];rfl
  case ga10=>rw [hq];dsimp only;exact Iq hs.1 hs.2 (DL (V:=V1) (ls:=ls1) (ev:=ev1) hs.1 hs.2 hsv hlv (EB (u:=a.bytes) hln.2.1 hln.1 y56 y57)) (.inr ⟨c10,rfl⟩) y79
 refine W ?_
 refine⟨fun c11 c11p=>?_,fun c11 c11p=>?_⟩
 ·
  refine Ws 45 ?_
  refine Cj (k:=a.AZ) hs.1 hs.2 (fun sv sl hsv hlv hln=>?_)
  refine Ws 48 ?_
  refine By (.c .h (.c .h (.c .h (.c .h (.c .h .n))))) ?_
  refine Ct hs.1 hs.2 (by rfl) (by rfl) (by rfl) ?_
  refine W ?_
  refine Cm (.c .h (.c .h (.c .h .n))) (Bg _ (AE.AZ V1 a.AZ { sv with out:=⟨sv.out.wait,sv.out.shown,sv.out.BL,sv.out.ring.drop (max 0 (min a.n (sv.out.ring.length:Int))).toNat,sv.out.cut⟩ }) (ls1.put a.AZ ⟨sl.queue,sl.wait,sl.told⟩) ev1 0 0 (by rw [(show AO (AE.AZ V1 a.AZ { sv with out:=⟨sv.out.wait,sv.out.shown,sv.out.BL,sv.out.ring.drop (max 0 (min a.n (sv.out.ring.length:Int))).toNat,sv.out.cut⟩ }) (ls1.put a.AZ ⟨sl.queue,sl.wait,sl.told⟩) ev1=AG.set (AO V1 ls1 ev1) a.AZ ((AG.at_ (AO V1 ls1 ev1) a.AZ).Jl a.n) from B4 hs.1 hs.2 hsv hlv (f:=fun x=>x.Jl a.n) rfl)];exact hF0.Jl hs.1 hs.2 a.n) (by omega) (by omega)) (fun v80 B hv=>?_)
  obtain⟨y81,y82,y83,rfl,y84,rfl⟩:=hv
  refine W ?_
  intro w1 hS
  have hS:=(hS.perm (AK.perm (.c .h (.c .h (.c .h .n))))).AM
  have hq0:AG.D3 (AO V1 ls1 ev1) a=_:=((AB c3).trans ((AB c4).trans ((AB c6).trans ((AB (show((decide (a.kind=1) && !decide ((AG.at_ (AO V1 ls1 ev1) a.AZ).state=0)) || (!decide (a.kind=1) && decide ((AG.at_ (AO V1 ls1 ev1) a.AZ).state=0)))=false by rw [DP V1 ls1 ev1 hs.1 hs.2];exact c7)).trans ((AB c8).trans ((AB c9).trans (AN c11)))))))
  have hq:(AG.act (AO V ls ev) a)=_:=(AG.FT (H:=(AO V ls ev)) (show V.Bp < 400 by omega) a).trans ((congrArg (fun X=>AG.D3 X a) hX.symm).trans hq0)
  refine⟨_,⟨y81,y82,y83,?gv11,?ga11,J⟩,hS⟩
  case gv11=>rw [hq];exact congrArg (fun x=>Value.agg (Cg.enc ⟨0,x⟩).toArray) (U3 V1 ls1 ev1 hs.1 hs.2 hsv a.n)
  case ga11=>rw [hq];dsimp only;exact y84.trans (congrArg AG.BJ (show AO (AE.AZ V1 a.AZ { sv with out:=⟨sv.out.wait,sv.out.shown,sv.out.BL,sv.out.ring.drop (max 0 (min a.n (sv.out.ring.length:Int))).toNat,sv.out.cut⟩ }) (ls1.put a.AZ ⟨sl.queue,sl.wait,sl.told⟩) ev1=AG.set (AO V1 ls1 ev1) a.AZ ((AG.at_ (AO V1 ls1 ev1) a.AZ).Jl a.n) from B4 hs.1 hs.2 hsv hlv (f:=fun x=>x.Jl a.n) rfl))
 refine W ?_
 refine Kt (decide_eq_true (by omega)) ?_
 refine W ?_
 refine Cm (.c .h (.c .h (.c .h .n))) (Es _ V1 ls1 ev1 a.AZ 0 0 hs hF0 (by omega) (by omega)) (fun v85 B hv=>?_)
 obtain⟨y86,y87,y88,rfl,y89,rfl⟩:=hv
 refine W ?_
 refine Cm (.c .h (.c .h (.c .h .n))) (Bg _ y86 y87 y88 11 11 (by rw [y89];exact hF0.leave hs.1 hs.2) (by omega) (by omega)) (fun v90 B hv=>?_)
 obtain⟨y91,y92,y93,rfl,y94,rfl⟩:=hv
 refine W ?_
 intro w1 hS
 have hS:=(hS.perm (AK.perm (.c .h (.c .h (.c .h .n))))).AM
 have hq0:AG.D3 (AO V1 ls1 ev1) a=_:=((AB c3).trans ((AB c4).trans ((AB c6).trans ((AB (show((decide (a.kind=1) && !decide ((AG.at_ (AO V1 ls1 ev1) a.AZ).state=0)) || (!decide (a.kind=1) && decide ((AG.at_ (AO V1 ls1 ev1) a.AZ).state=0)))=false by rw [DP V1 ls1 ev1 hs.1 hs.2];exact c7)).trans ((AB c8).trans ((AB c9).trans (AB c11)))))))
 have hq:(AG.act (AO V ls ev) a)=_:=(AG.FT (H:=(AO V ls ev)) (show V.Bp < 400 by omega) a).trans ((congrArg (fun X=>AG.D3 X a) hX.symm).trans hq0)
 refine⟨_,⟨y91,y92,y93,?gv12,?ga12,J⟩,hS⟩
 case gv12=>rw [hq];rfl
 case ga12=>rw [hq];dsimp only;exact y94.trans (congrArg AG.BJ y89)
theorem SR (b:Nat)(V:AE)(ev:List Ing.Event)(hl:ev.length≤1000000):Fu Tryz.prog 11 #[.pointer (some ⟨b,0,none⟩)] [AJ.box b 95 (AE.enc V),AJ.own (AE.last V) 100 16 (ev.flatMap Ing.Event.enc)] (fun v B=>∃ h':Hd,v=h'.val∧h'.len=ev.length∧B = [AJ.box b 95 (AE.enc V),AJ.own (AE.last V) 100 16 (ev.flatMap Ing.Event.enc),AJ.own h' 100 16 (ev.flatMap Ing.Event.enc)]):=by
 intro w hS0
 refine AR _ _ Tryz.func11 J J J (hS0) ?_
 refine Ws 1 ?_
 refine VG (fun w hS=>(Kn.own .m1 w hS).Gh Ing.Event.fl (by decide)) (fun hLl=>?_)
 refine W ?_
 refine Hx Ing.Event.enc 100 16 ?_
 refine ES (e:=Ing.Event.enc) J Tryz.underlying38 iq jI J iR (by decide) J J (fun w hS=>Src.FG Tryz.underlying38 ((Kn.own .m2) w hS)) J J (by omega) (fun _=> .h) (fun h1 h1l=>?_)
 refine W ?_
 intro w1 hS
 have hS:=(hS.perm (AK.perm (.c (.t .h) (.c (.t .h) (.c .h .n))))).AM
 exact⟨_,⟨_,J,by(try simp only [List.length_append,List.length_nil] at *);omega,rfl⟩,hS⟩
theorem Et {t0 t1:Nat}(f g:Hd)(xs ys:List Ing.Event)(hx:xs.length≤9223372036854775807)(w:World)(r0:Rd w f t0 16 (xs.flatMap Ing.Event.enc))(r1:Rd w g t1 16 (ys.flatMap Ing.Event.enc)):Ch Tryz.prog 10 #[f.val,g.val] w fun v w'=>v = .bool (decide (xs=ys))∧BF w w':=by
 have hf:=r0.Gh Ing.Event.fl (by decide)
 have hg:=r1.Gh Ing.Event.fl (by decide)
 refine Rb Tryz.func10 ?_
 refine W ?_
 refine⟨fun c1 c1p=>?_,fun c1 c1p=>?_⟩
 ·
  try dsimp only at c1p
  refine W ?_
  refine congrArg Value.bool ?_;have:xs≠ys:=fun e=>by subst e;simp at c1;omega
  simp [this]
 try dsimp only at c1p
 refine W ?_
 refine Af (.t4 13 0 1 12) ?_
 refine A7 (fun(i:Int)=>0≤i∧i≤xs.length∧xs.length=ys.length∧xs.take i.toNat=ys.take i.toNat) (fun(i:Int)=>((xs.length:Int) - i).toNat) (fun(i:Int)=> [(13, .int .i64 i)]) (fun(i:Int)=> []) (0) ?_ J J (fun i hI1=>?_)
 · exact⟨by omega,by omega,by simp at c1;omega,rfl⟩
 obtain⟨hI11,hI12,hI13,hI14⟩:=hI1
 refine W ?_
 refine⟨fun c2 c2p=>?_,fun c2 c2p=>?_⟩
 ·
  try dsimp only at c2p
  refine W ?_
  refine⟨fun c3 c3p=>?_,fun c3 c3p=>?_⟩
  ·
   try dsimp only at c3p
   refine W ?_
   refine congrArg Value.bool ?_;have:=Aa.Pu (d:=default) (xs:=xs) (ys:=ys) (i:=i.toNat) (by simpa using c3)
   simp [this]
  try dsimp only at c3p
  refine W ?_
  refine Aw (i+1) ?_ ?_ (.t4 13 0 1 12) (.refl _)
  · exact⟨by omega,by omega,hI13,Aa.JC (d:=default) hI11 hI13 (by omega) hI14 (by simpa using c3)⟩
  · omega
 try dsimp only at c2p
 refine W ?_
 refine congrArg Value.bool ?_;have:=Aa.dz (xs:=xs) (ys:=ys) hI13 hI14 (by omega)
 simp [this]
instance instP10:DI Tryz.prog 10 (type_of% @Et):=⟨@Et⟩
theorem SQ (b:Nat)(V:AE):Fu Tryz.prog 12 #[.pointer (some ⟨b,0,none⟩)] [AJ.box b 95 (AE.enc V)] (fun v B=>v = .agg (AD.enc V.w).toArray∧B = [AJ.box b 95 (AE.enc V)]):=by
 intro w hS0
 refine AR _ _ Tryz.func12 J J J (hS0) ?_
 refine W ?_
 intro b1
 intro w1 hS
 have hS:=(hS.perm (AK.perm (.c (.t .h) .n))).AM
 exact⟨_,⟨J,J⟩,hS⟩
theorem Qb (b:Nat)(V:AE)(i:Int):Fu Tryz.prog 13 #[.pointer (some ⟨b,0,none⟩), .int .i64 i] [AJ.box b 95 (AE.enc V)] (fun v B=>v = .tuple #[.int .i64 (Ce (V.sat i)).1, .int .i64 (Ce (V.sat i)).2]∧B = [AJ.box b 95 (AE.enc V)]):=by
 intro w hS0
 refine AR _ _ Tryz.func13 J J J (hS0) ?_
 refine W ?_
 refine⟨fun c1 c1p=>?_,fun c1 c1p=>?_⟩
 ·
  refine W ?_
  refine⟨fun c2 c2p=>?_,fun c2 c2p=>?_⟩
  ·
   refine W ?_
   intro w1 hS
   have hS:=(hS.perm (AK.perm (.c .h .n))).AM
   refine⟨_,⟨?gv1,J⟩,hS⟩
   case gv1=>rw [Sv c2];rfl
  have hi:0≤i∧i < 4:=⟨by omega,by omega⟩
  refine W ?_
  intro w1 hS
  have hS:=(hS.perm (AK.perm (.c .h .n))).AM
  refine⟨_,⟨?gv2,J⟩,hS⟩
  case gv2=>rw [L2 hi.1 hi.2,show Ce (V.AP.at i)=_ from if_neg (by rw [decide_eq_true_eq];rcases c1p with (h | h) | h<;>first | omega | exact h)];rfl
 have hi:0≤i∧i < 4:=⟨by omega,by omega⟩
 refine W ?_
 intro w1 hS
 have hS:=(hS.perm (AK.perm (.c .h .n))).AM
 refine⟨_,⟨?gv3,J⟩,hS⟩
 case gv3=>rw [L2 hi.1 hi.2,show Ce (V.AP.at i)=_ from if_pos (decide_eq_true c1p.2)];rfl
theorem SU (b:Nat)(V:AE)(ls:Vector Ae 4)(i:Int)(hl:(ON ls i).wait.length≤1000000):Fu Tryz.prog 15 #[.pointer (some ⟨b,0,none⟩), .int .i64 i] [AJ.box b 95 (AE.enc V),AJ.CI (BB 9 (AE.AP V) ls)] (fun v B=>∃ h':Hd,v = .agg (A9.enc ⟨h',(V.sat i).out.shown,(V.sat i).out.BL,(V.sat i).out.ring,(V.sat i).out.cut⟩).toArray∧h'.len=(ON ls i).wait.length∧B = [AJ.box b 95 (AE.enc V),AJ.CI (BB 9 (AE.AP V) ls),AJ.own h' 9 1 ((ON ls i).wait.flatMap AX)]):=by
 intro w hS0
 refine AR _ _ Tryz.func15 J J J (hS0) ?_
 refine W ?_
 intro b1
 refine⟨fun c1 c1p=>?_,fun c1 c1p=>?_⟩
 ·
  refine W ?_
  intro w1 hS
  have hS:=hS.BT 9 1
  have hS:=(hS.perm (AK.perm (.c (.t (.t .h)) (.c (.t (.t .h)) (.c .h .n))))).AM
  refine⟨_,⟨⟨none,0,0⟩,?gv1,?gl1,?gB1⟩,hS⟩
  case gv1=>rw [Sv c1];rfl
  case gl1=>rw [Ky c1];rfl
  case gB1=>rw [Ky c1];rfl
 have hi:0≤i∧i < 4:=⟨by omega,by omega⟩
 rw [Ja hi.1 hi.2] at hl
 refine Ws 3 ?_
 refine By (.c (.t .h) (.c (.t .h) .n)) ?_
 refine Cj (k:=i) hi.1 hi.2 (fun sv sl hsv hlv hln=>?_)
 have hl2:=hl
 rw [hlv] at hl2
 refine W ?_
 intro b2
 refine Hx AX 9 1 ?_
 refine ES (e:=AX) J Tryz.underlying56 OZ bd J dm (by decide) J J (fun w hS=>Src.FG Tryz.underlying56 ((Kn.own .m3) w hS)) J J (by omega) (fun _=> .h) (fun h2 h2l=>?_)
 refine W ?_
 intro w1 hS
 have hS:=(hS.perm (AK.perm (.c (.t (.t .h)) (.c (.t (.t .h)) (.c (.t (.t .h)) (.c (.t (.t .h)) (.c (.t (.t .h)) (.c .h .n)))))))).AM
 have e1:V.AZ i sv=V:=by rw [← hsv];exact V.K7 hi.1 hi.2
 have e2:ls.put i ⟨sl.queue,sl.wait,sl.told⟩=ls:=by rw [← hlv];exact Vector.MW ls hi.1 hi.2
 have hS:=St.close' (s:=sv) (qs:=sl.queue) (ws:=sl.wait) (ts:=sl.told) hi.1 hi.2 rfl rfl rfl hS
 rw [e1,e2] at hS
 rw [L2 hi.1 hi.2,hsv]
 rw [Ja hi.1 hi.2,hlv]
 refine⟨_,⟨_,J,?gl,J⟩,hS⟩
 case gl=>(try simp only [List.length_append,List.length_nil] at *);omega
theorem FF {t0 t1:Nat}(f g:Hd)(xs ys:List AL)(hx:xs.length≤9223372036854775807)(w:World)(r0:Rd w f t0 1 (xs.flatMap AX))(r1:Rd w g t1 1 (ys.flatMap AX)):Ch Tryz.prog 18 #[f.val,g.val] w fun v w'=>v = .bool (decide (xs=ys))∧BF w w':=by
 have hf:=r0.Gh Cr (by decide)
 have hg:=r1.Gh Cr (by decide)
 refine Rb Tryz.func18 ?_
 refine W ?_
 refine⟨fun c1 c1p=>?_,fun c1 c1p=>?_⟩
 ·
  try dsimp only at c1p
  refine W ?_
  refine congrArg Value.bool ?_;have:xs≠ys:=fun e=>by subst e;simp at c1;omega
  simp [this]
 try dsimp only at c1p
 refine W ?_
 refine Af (.t4 13 0 1 12) ?_
 refine A7 (fun(i:Int)=>0≤i∧i≤xs.length∧xs.length=ys.length∧xs.take i.toNat=ys.take i.toNat) (fun(i:Int)=>((xs.length:Int) - i).toNat) (fun(i:Int)=> [(13, .int .i64 i)]) (fun(i:Int)=> []) (0) ?_ J J (fun i hI1=>?_)
 · exact⟨by omega,by omega,by simp at c1;omega,rfl⟩
 obtain⟨hI11,hI12,hI13,hI14⟩:=hI1
 refine W ?_
 refine⟨fun c2 c2p=>?_,fun c2 c2p=>?_⟩
 ·
  try dsimp only at c2p
  refine W ?_
  refine⟨fun c3 c3p=>?_,fun c3 c3p=>?_⟩
  ·
   try dsimp only at c3p
   refine W ?_
   refine congrArg Value.bool ?_;have:=Aa.Pu (d:= []) (xs:=xs) (ys:=ys) (i:=i.toNat) (by simpa using c3)
   simp [this]
  try dsimp only at c3p
  refine W ?_
  refine Aw (i+1) ?_ ?_ (.t4 13 0 1 12) (.refl _)
  · exact⟨by omega,by omega,hI13,Aa.JC (d:= []) hI11 hI13 (by omega) hI14 (by simpa using c3)⟩
  · omega
 try dsimp only at c2p
 refine W ?_
 refine congrArg Value.bool ?_;have:=Aa.dz (xs:=xs) (ys:=ys) hI13 hI14 (by omega)
 simp [this]
instance instP18:DI Tryz.prog 18 (type_of% @FF):=⟨@FF⟩
theorem Fh {t0 t1:Nat}(x y:A9)(xs ys:List AL)(hx:xs.length≤9223372036854775807)(w:World)(r0:Rd w x.wait t0 1 (xs.flatMap AX))(r1:Rd w y.wait t1 1 (ys.flatMap AX)):Ch Tryz.prog 14 #[.agg x.enc.toArray, .agg y.enc.toArray] w fun v w'=>v = .bool (decide (xs=ys) && decide (x.shown=y.shown) && (x.BL == y.BL) && decide (x.ring=y.ring) && (x.cut == y.cut))∧BF w w':=by
 refine Rb Tryz.func14 ?_
 refine W ?_
 intro b1 b2
 rfl
instance instP14:DI Tryz.prog 14 (type_of% @Fh):=⟨@Fh⟩
theorem SS (b:Nat)(V:AE)(ls:Vector Ae 4)(i:Int)(hl:(ON ls i).queue.length≤1000000):Fu Tryz.prog 17 #[.pointer (some ⟨b,0,none⟩), .int .i64 i] [AJ.box b 95 (AE.enc V),AJ.CI (BB 9 (AE.AP V) ls)] (fun v B=>∃ h':Hd,v = .agg (BN.enc ⟨(V.sat i).Ax.now,(V.sat i).Ax.long,(V.sat i).Ax.ret,h'⟩).toArray∧h'.len=(ON ls i).queue.length∧B = [AJ.box b 95 (AE.enc V),AJ.CI (BB 9 (AE.AP V) ls),AJ.own h' 9 1 ((ON ls i).queue.flatMap AX)]):=by
 intro w hS0
 refine AR _ _ Tryz.func17 J J J (hS0) ?_
 refine W ?_
 intro b1
 refine⟨fun c1 c1p=>?_,fun c1 c1p=>?_⟩
 ·
  refine W ?_
  intro w1 hS
  have hS:=hS.BT 9 1
  have hS:=(hS.perm (AK.perm (.c (.t (.t .h)) (.c (.t (.t .h)) (.c .h .n))))).AM
  refine⟨_,⟨⟨none,0,0⟩,?gv1,?gl1,?gB1⟩,hS⟩
  case gv1=>rw [Sv c1];rfl
  case gl1=>rw [Ky c1];rfl
  case gB1=>rw [Ky c1];rfl
 have hi:0≤i∧i < 4:=⟨by omega,by omega⟩
 rw [Ja hi.1 hi.2] at hl
 refine Ws 3 ?_
 refine By (.c (.t .h) (.c (.t .h) .n)) ?_
 refine Cj (k:=i) hi.1 hi.2 (fun sv sl hsv hlv hln=>?_)
 have hl2:=hl
 rw [hlv] at hl2
 refine W ?_
 intro b2
 refine Hx AX 9 1 ?_
 refine ES (e:=AX) J Tryz.underlying56 OZ bd J dm (by decide) J J (fun w hS=>Src.FG Tryz.underlying56 ((Kn.own .m2) w hS)) J J (by omega) (fun _=> .h) (fun h2 h2l=>?_)
 refine W ?_
 intro w1 hS
 have hS:=(hS.perm (AK.perm (.c (.t (.t .h)) (.c (.t (.t .h)) (.c (.t (.t .h)) (.c (.t (.t .h)) (.c (.t (.t .h)) (.c .h .n)))))))).AM
 have e1:V.AZ i sv=V:=by rw [← hsv];exact V.K7 hi.1 hi.2
 have e2:ls.put i ⟨sl.queue,sl.wait,sl.told⟩=ls:=by rw [← hlv];exact Vector.MW ls hi.1 hi.2
 have hS:=St.close' (s:=sv) (qs:=sl.queue) (ws:=sl.wait) (ts:=sl.told) hi.1 hi.2 rfl rfl rfl hS
 rw [e1,e2] at hS
 rw [L2 hi.1 hi.2,hsv]
 rw [Ja hi.1 hi.2,hlv]
 refine⟨_,⟨_,J,?gl,J⟩,hS⟩
 case gl=>(try simp only [List.length_append,List.length_nil] at *);omega
theorem Fg {t0 t1:Nat}(x y:BN)(xs ys:List AL)(hx:xs.length≤9223372036854775807)(w:World)(r0:Rd w x.queue t0 1 (xs.flatMap AX))(r1:Rd w y.queue t1 1 (ys.flatMap AX)):Ch Tryz.prog 16 #[.agg x.enc.toArray, .agg y.enc.toArray] w fun v w'=>v = .bool (decide (x.now=y.now) && (x.long == y.long) && (x.ret == y.ret) && decide (xs=ys))∧BF w w':=by
 refine Rb Tryz.func16 ?_
 refine W ?_
 intro b1 b2
 rfl
instance instP16:DI Tryz.prog 16 (type_of% @Fg):=⟨@Fg⟩
theorem SV (b:Nat)(V:AE)(ls:Vector Ae 4)(i:Int)(hl:(ON ls i).told.length≤1000000):Fu Tryz.prog 19 #[.pointer (some ⟨b,0,none⟩), .int .i64 i] [AJ.box b 95 (AE.enc V),AJ.CI (BB 9 (AE.AP V) ls)] (fun v B=>∃ h':Hd,v=h'.val∧h'.len=(ON ls i).told.length∧B = [AJ.box b 95 (AE.enc V),AJ.CI (BB 9 (AE.AP V) ls),AJ.own h' 9 1 ((ON ls i).told.flatMap AX)]):=by
 intro w hS0
 refine AR _ _ Tryz.func19 J J J (hS0) ?_
 refine W ?_
 refine⟨fun c1 c1p=>?_,fun c1 c1p=>?_⟩
 ·
  refine W ?_
  intro w1 hS
  have hS:=hS.BT 9 1
  have hS:=(hS.perm (AK.perm (.c (.t .h) (.c (.t .h) (.c .h .n))))).AM
  refine⟨_,⟨⟨none,0,0⟩,J,?gl1,?gB1⟩,hS⟩
  case gl1=>rw [Ky c1];rfl
  case gB1=>rw [Ky c1];rfl
 have hi:0≤i∧i < 4:=⟨by omega,by omega⟩
 rw [Ja hi.1 hi.2] at hl
 refine Ws 3 ?_
 refine Cj (k:=i) hi.1 hi.2 (fun sv sl hsv hlv hln=>?_)
 have hl2:=hl
 rw [hlv] at hl2
 refine W ?_
 refine Hx AX 9 1 ?_
 refine ES (e:=AX) J Tryz.underlying56 OZ bd J dm (by decide) J J (fun w hS=>Src.FG Tryz.underlying56 ((Kn.own .m3) w hS)) J J (by omega) (fun _=> .h) (fun h2 h2l=>?_)
 refine W ?_
 intro w1 hS
 have hS:=(hS.perm (AK.perm (.c (.t .h) (.c (.t .h) (.c (.t .h) (.c (.t .h) (.c (.t .h) (.c .h .n)))))))).AM
 have e1:V.AZ i sv=V:=by rw [← hsv];exact V.K7 hi.1 hi.2
 have e2:ls.put i ⟨sl.queue,sl.wait,sl.told⟩=ls:=by rw [← hlv];exact Vector.MW ls hi.1 hi.2
 have hS:=St.close' (s:=sv) (qs:=sl.queue) (ws:=sl.wait) (ts:=sl.told) hi.1 hi.2 rfl rfl rfl hS
 rw [e1,e2] at hS
 rw [Ja hi.1 hi.2,hlv]
 refine⟨_,⟨_,J,?gl,J⟩,hS⟩
 case gl=>(try simp only [List.length_append,List.length_nil] at *);omega
end Go.Proofs.YtlmmdjaoikaceaaGreatDoor
