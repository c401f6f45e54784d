/- What the functions that the law HouseRuns reaches compute: walks, part 13. No condition. -/
import Derived.Test.YtlmmdjaoikaceaaGreatDoorCards
import Derived.Test.YtlmmdjaoikaceaaGreatDoorTie
import Derived.Deep.DeepHandedRow
import Derived.Test.YtlmmdjaoikaceaaGreatDoorRows
import Derived.Test.YtlmmdjaoikaceaaGreatDoorHouseRunsEc3
import Derived.Test.YtlmmdjaoikaceaaGreatDoorHouseRunsRa1
import Derived.Test.YtlmmdjaoikaceaaGreatDoorHouseRunsRb1
import Derived.Test.YtlmmdjaoikaceaaGreatDoorHouseRunsRc1
import Derived.Test.YtlmmdjaoikaceaaGreatDoorHouseRunsRd1
import Derived.Test.YtlmmdjaoikaceaaGreatDoorHouseRunsWalks
import Derived.Test.YtlmmdjaoikaceaaGreatDoorHouseRunsWalks6
import Derived.Test.YtlmmdjaoikaceaaGreatDoorHouseRunsWalks8
import Derived.Test.YtlmmdjaoikaceaaGreatDoorHouseRunsWalks10
import Derived.Test.YtlmmdjaoikaceaaGreatDoorHouseRunsWalks11
import Derived.Test.YtlmmdjaoikaceaaGreatDoorHouseRunsWalks12
set_option linter.unusedSimpArgs false
set_option linter.unusedVariables false
set_option maxRecDepth 100000
set_option maxHeartbeats 4000000
namespace Go.Proofs.YtlmmdjaoikaceaaGreatDoor
open Go Go.Ing Go.RowKit Go.ChangeShapes Go.WideShapes Go.ChangeAt
theorem MM (b:Nat)(V:AE)(ls:Vector Af 4)(ev:List Ing.Event)(a:Ba)(hL:AG.Live (AO V ls ev))(h4:V.Bg≤400)(hu:a.bytes.length≤140737488351232):Cw Tryz.prog 7 #[.pointer (some ⟨b,0,none⟩), .agg a.enc.toArray] [AJ.box b 65 (AE.enc V),AJ.CQ (BF 9 (AE.AQ V) ls),AJ.own (AE.last V) 100 16 ((ev).flatMap Ing.Event.enc)] (fun w=>(GV 3 Dw w∧3 ∉ BP [AJ.box b 65 (AE.enc V),AJ.CQ (BF 9 (AE.AQ V) ls),AJ.own (AE.last V) 100 16 ((ev).flatMap Ing.Event.enc)])∧(GV 1 AD.Bf w∧1 ∉ BP [AJ.box b 65 (AE.enc V),AJ.CQ (BF 9 (AE.AQ V) ls),AJ.own (AE.last V) 100 16 ((ev).flatMap Ing.Event.enc)])∧(GV 0 AD.Bf w∧0 ∉ BP [AJ.box b 65 (AE.enc V),AJ.CQ (BF 9 (AE.AQ V) ls),AJ.own (AE.last V) 100 16 ((ev).flatMap Ing.Event.enc)])∧(Ea 8 w∧8 ∉ BP [AJ.box b 65 (AE.enc V),AJ.CQ (BF 9 (AE.AQ V) ls),AJ.own (AE.last V) 100 16 ((ev).flatMap Ing.Event.enc)])∧(Ea 9 w∧9 ∉ BP [AJ.box b 65 (AE.enc V),AJ.CQ (BF 9 (AE.AQ V) ls),AJ.own (AE.last V) 100 16 ((ev).flatMap Ing.Event.enc)])) (fun v B=>∃ V' ls' ev',v = .agg (CC.enc (AG.act (AO V ls ev) a).2).toArray∧AO V' ls' ev'=(AG.act (AO V ls ev) a).1∧B = [AJ.box b 65 (AE.enc V'),AJ.CQ (BF 9 (AE.AQ V') ls'),AJ.own (AE.last V') 100 16 ((ev').flatMap Ing.Event.enc)]):=by
 intro w hS0 hH
 obtain⟨⟨gl0,gm0⟩,⟨gl1,gm1⟩,⟨gl2,gm2⟩,⟨gl3,gm3⟩,⟨gl4,gm4⟩⟩:=hH
 obtain⟨n,m,hF⟩:=hL.fits
 have hc:0≤V.Bg:=hL.Bg
 refine AU _ _ Tryz.func7 J J J (hS0) ?_
 refine W ?_
 intro b1 b2
 refine⟨fun c1 c1p=>?_,fun c1 c1p=>?_⟩
 ·
  refine W ?_
  refine Cl .n (CV _) (fun v1 B hv=>?_)
  obtain⟨rfl,rfl⟩:=hv
  refine W ?_
  intro w1 hS
  have hS:=(hS.perm (AK.perm (.c (.t (.t .h)) (.c (.t (.t .h)) (.c (.t (.t .h)) .n))))).AM
  have hq:(AG.act (AO V ls ev) a)=((AO V ls ev),⟨4,[]⟩):=if_pos (decide_eq_true (show 400≤V.Bg by omega))
  refine⟨_,⟨V,ls,ev,?gv1,?ga1,J⟩,hS⟩
  case gv1=>rw [hq];rfl
  case ga1=>rw [hq]
 refine Ws 6 ?_
 refine CA Ing.Event.enc 100 16 ?_
 refine B6 (.c (.t (.t (.t .h))) (.c (.t (.t (.t .h))) (.c .h .n))) ?_
 refine W ?_
 refine Ag (.t5 37 0 3 4 5) ?_
 refine AX (.t (.t .h)) ?_
 refine AX (.t (.t .h)) ?_
 refine AX (.t (.t .h)) ?_
 refine Dd (fun(i:Int) (V1:AE) (ls1:Vector Af 4) (ev1:List Ing.Event)=>0≤i∧i≤4∧(AO V1 ls1 ev1)=AG.D0 ({ (AO V ls ev) with Bg:=((AO V ls ev)).Bg+1,last:= [] }:AG) i.toNat) (fun(i:Int) (V1:AE) (ls1:Vector Af 4) (ev1:List Ing.Event)=>(4 - i).toNat) (fun(i:Int) (V1:AE) (ls1:Vector Af 4) (ev1:List Ing.Event)=> [(37, .int .i64 i)]) (fun(i:Int) (V1:AE) (ls1:Vector Af 4) (ev1:List Ing.Event)=> [AJ.box b 65 (AE.enc V1),AJ.CQ (BF 9 (AE.AQ V1) ls1),AJ.own (AE.last V1) 100 16 (ev1.flatMap Ing.Event.enc)]) (0) (_) (ls) ([]) ?_ J J (fun i V1 ls1 ev1 hI1=>?_)
 · exact⟨by omega,by omega,rfl⟩
 obtain⟨hI11,hI12,hI13⟩:=hI1
 refine W ?_
 refine⟨fun c2 c2p=>?_,fun c2 c2p=>?_⟩
 ·
  have hi:0≤i∧i < 4:=⟨by omega,by omega⟩
  refine Ws 9 ?_
  refine C8 (k:=i) hi.1 hi.2 (fun sv sl hsv hlv hln=>?_)
  refine Ws 10 ?_
  refine CA Ac 9 1 ?_
  refine B6 (.c (.t .h) (.c (.t .h) (.c .h (.c (.t .h) (.c (.t .h) .n))))) ?_
  refine Cr hi.1 hi.2 (by rfl) (by rfl) (by rfl) ?_
  refine W ?_
  refine As (.c .h (.c .h (.c (.t .h) (.c (.t .h) (.c (.t .h) (.c (.t .h) .n)))))) ?_
  refine Ax ?_
  refine BL (i+1) _ _ _ ?_ ?_ (.t5 37 0 3 4 5) (.refl _)
  · exact⟨by omega,by omega,(B3 hi.1 hi.2 hsv hlv (f:=fun x=>{ x with told:= [] }) rfl).trans (by rw [hI13];exact(AG.Mc hI11).symm)⟩
  · omega
 obtain rfl:i=4:=by omega
 have hX:(AO V1 ls1 ev1)=(AG.begun (AO V ls ev)):=hI13
 have hF0:AG.Fit (AO V1 ls1 ev1) 0 0:=by rw [hX];exact hF.begun
 have hO1:AG.JE (AO V1 ls1 ev1):=by rw [hX];exact hL.iS.begun
 refine W ?_
 refine⟨fun c3 c3p=>?_,fun c3 c3p=>?_⟩
 ·
  refine W ?_
  refine Cl .n (CV _) (fun v3 B hv=>?_)
  obtain⟨rfl,rfl⟩:=hv
  refine W ?_
  intro w1 hS
  have hS:=(hS.perm (AK.perm (.c .h (.c .h (.c .h .n))))).AM
  have hq0:AG.D3 (AO V1 ls1 ev1) a=_:=(AN c3)
  have hq:(AG.act (AO V ls ev) a)=_:=(AG.FM (H:=(AO V ls ev)) (show V.Bg < 400 by omega) a).trans ((congrArg (fun X=>AG.D3 X a) hX.symm).trans hq0)
  refine⟨_,⟨V1,ls1,ev1,?gv2,?ga2,J⟩,hS⟩
  case gv2=>rw [hq];rfl
  case ga2=>rw [hq]
 refine W ?_
 refine⟨fun c4 c4p=>?_,fun c4 c4p=>?_⟩
 ·
  refine W ?_
  refine Ag (.t5 60 0 3 4 5) ?_
  refine AX (.t (.t .h)) ?_
  refine AX (.t (.t .h)) ?_
  refine AX (.t (.t .h)) ?_
  refine Dd (fun(j:Int) (V2:AE) (ls2:Vector Af 4) (ev2:List Ing.Event)=>0≤j∧j≤4∧(AO V2 ls2 ev2)=AG.turns (AO V1 ls1 ev1) j.toNat) (fun(j:Int) (V2:AE) (ls2:Vector Af 4) (ev2:List Ing.Event)=>(4 - j).toNat) (fun(j:Int) (V2:AE) (ls2:Vector Af 4) (ev2:List Ing.Event)=> [(60, .int .i64 j)]) (fun(j:Int) (V2:AE) (ls2:Vector Af 4) (ev2:List Ing.Event)=> [AJ.box b 65 (AE.enc V2),AJ.CQ (BF 9 (AE.AQ V2) ls2),AJ.own (AE.last V2) 100 16 (ev2.flatMap Ing.Event.enc)]) (0) (V1) (ls1) (ev1) ?_ J J (fun j V2 ls2 ev2 hI2=>?_)
  · exact⟨by omega,by omega,rfl⟩
  obtain⟨hI21,hI22,hI23⟩:=hI2
  refine W ?_
  refine⟨fun c5 c5p=>?_,fun c5 c5p=>?_⟩
  ·
   have hj:0≤j∧j < 4:=⟨by omega,by omega⟩
   refine W ?_
   refine Cm (.c .h (.c .h (.c .h .n))) (K2 _ V2 ls2 ev2 j 44 44 hj (by rw [hI23];exact(AG.HH hF0 j.toNat (by omega)).mono (by omega) (by omega)) (by omega) (by omega)) (fun v4 B hv=>?_)
   obtain⟨y5,y6,y7,rfl,y8,rfl⟩:=hv
   refine W ?_
   refine BL (j+1) _ _ _ ?_ ?_ (.t5 60 0 3 4 5) (.refl _)
   · exact⟨by omega,by omega,y8.trans (by rw [hI23];exact(Ps hI21).symm)⟩
   · omega
  obtain rfl:j=4:=by omega
  have hF1:=AG.HH hF0 4 (Nat.le_refl 4)
  rw [show(4:Nat)=(4:Int).toNat from rfl,← hI23] at hF1
  have hrl:(AA.BW V2.w a.n).2.1.length≤78:=AA.M7 hF1.Fg.GN a.n
  have hrs:=AA.Ll (draw:=a.n) hF1.Fg
  have hF4:=((hF1.land hrs.1).Fi hrs.2).mono (Nat.add_le_add_left hrl _) (Nat.add_le_add_left hrl _)
  refine W ?_
  refine Et 6 11 J J (by kernel_rfl) ?_ ?_
  ·
   refine W ?_
   refine Cm .n (Iw V2.w a.n hF1.Fg.GN) (fun v9 B hv=>?_)
   obtain⟨y10,rfl,y11,rfl⟩:=hv
   refine W ?_
   intro b3
   refine Cm (.c (.t (.t .h)) (.c (.t (.t .h)) (.c (.t (.t .h)) (.c (.t .h) .n)))) (Bv _ { V2 with w:=(AA.BW V2.w a.n).1 } ls2 ev2 _ (AA.BW V2.w a.n).2.1 _ (by assumption) (Cx hF1) (by omega) (Nat.le_trans hF1.last (by omega)) hrs.2) (fun v13 B hv=>?_)
   obtain⟨y14,y15,y16,rfl,y17,rfl⟩:=hv
   refine W ?_
   refine Cm (.c .h (.c .h (.c .h .n))) (Bi _ y14 y15 y16 _ _ (by rw [y17];exact hF4) (by omega) (by omega)) (fun v18 B hv=>?_)
   obtain⟨y19,y20,y21,rfl,y22,rfl⟩:=hv
   refine W ?_
   refine Cl .n (CV _) (fun v23 B hv=>?_)
   obtain⟨rfl,rfl⟩:=hv
   refine W ?_
   intro w1 hS
   have hS:=(hS.perm (AK.perm (.c .h (.c .h (.c .h .n))))).AM
   have hq0:AG.D3 (AO V1 ls1 ev1) a=_:=((AB c3).trans (AN c4))
   have hq:(AG.act (AO V ls ev) a)=_:=(AG.FM (H:=(AO V ls ev)) (show V.Bg < 400 by omega) a).trans ((congrArg (fun X=>AG.D3 X a) hX.symm).trans hq0)
   refine⟨_,⟨y19,y20,y21,?gv3,?ga3,J⟩,hS⟩
   case gv3=>rw [hq];rfl
   case ga3=>rw [hq];dsimp only;rw [y22,y17,JJ];show AG.BJ (AG.Fi { (AO V2 ls2 ev2) with w:=(AA.BW ((AO V2 ls2 ev2)).w a.n).1 } (AA.BW ((AO V2 ls2 ev2)).w a.n).2.1)=_;rw [hI23];rfl
  ·
   refine W ?_
   intro b4
   refine Cm .n (Iw V2.w a.n hF1.Fg.GN) (fun v24 B hv=>?_)
   obtain⟨y25,rfl,y26,rfl⟩:=hv
   refine W ?_
   refine Cm (.c (.t (.t .h)) (.c (.t (.t .h)) (.c (.t (.t .h)) (.c .h .n)))) (Bv _ { V2 with w:=(AA.BW V2.w a.n).1 } ls2 ev2 _ (AA.BW V2.w a.n).2.1 _ (by assumption) (Cx hF1) (by omega) (Nat.le_trans hF1.last (by omega)) hrs.2) (fun v28 B hv=>?_)
   obtain⟨y29,y30,y31,rfl,y32,rfl⟩:=hv
   refine W ?_
   refine Cm (.c .h (.c .h (.c .h .n))) (Bi _ y29 y30 y31 _ _ (by rw [y32];exact hF4) (by omega) (by omega)) (fun v33 B hv=>?_)
   obtain⟨y34,y35,y36,rfl,y37,rfl⟩:=hv
   refine W ?_
   refine Cl .n (CV _) (fun v38 B hv=>?_)
   obtain⟨rfl,rfl⟩:=hv
   refine W ?_
   intro w1 hS
   have hS:=(hS.perm (AK.perm (.c .h (.c .h (.c .h .n))))).AM
   have hq0:AG.D3 (AO V1 ls1 ev1) a=_:=((AB c3).trans (AN c4))
   have hq:(AG.act (AO V ls ev) a)=_:=(AG.FM (H:=(AO V ls ev)) (show V.Bg < 400 by omega) a).trans ((congrArg (fun X=>AG.D3 X a) hX.symm).trans hq0)
   refine⟨_,⟨y34,y35,y36,?gv4,?ga4,J⟩,hS⟩
   case gv4=>rw [hq];rfl
   case ga4=>rw [hq];dsimp only;rw [y37,y32,JJ];show AG.BJ (AG.Fi { (AO V2 ls2 ev2) with w:=(AA.BW ((AO V2 ls2 ev2)).w a.n).1 } (AA.BW ((AO V2 ls2 ev2)).w a.n).2.1)=_;rw [hI23];rfl
 refine W ?_
 refine⟨fun c6 c6p=>?_,fun c6 c6p=>?_⟩
 ·
  refine W ?_
  refine Cl .n (CV _) (fun v39 B hv=>?_)
  obtain⟨rfl,rfl⟩:=hv
  refine W ?_
  intro w1 hS
  have hS:=(hS.perm (AK.perm (.c .h (.c .h (.c .h .n))))).AM
  have hq0:AG.D3 (AO V1 ls1 ev1) a=_:=((AB c3).trans ((AB c4).trans (AN c6)))
  have hq:(AG.act (AO V ls ev) a)=_:=(AG.FM (H:=(AO V ls ev)) (show V.Bg < 400 by omega) a).trans ((congrArg (fun X=>AG.D3 X a) hX.symm).trans hq0)
  refine⟨_,⟨V1,ls1,ev1,?gv5,?ga5,J⟩,hS⟩
  case gv5=>rw [hq];rfl
  case ga5=>rw [hq]
 have hs:0≤a.AY∧a.AY < 4:=⟨by omega,by omega⟩
 refine W ?_
 refine⟨fun c7 c7p=>?_,fun c7 c7p=>?_⟩
 ·
  refine W ?_
  refine Cl .n (CV _) (fun v40 B hv=>?_)
  obtain⟨rfl,rfl⟩:=hv
  refine W ?_
  intro w1 hS
  have hS:=(hS.perm (AK.perm (.c .h (.c .h (.c .h .n))))).AM
  have hq0:AG.D3 (AO V1 ls1 ev1) a=_:=((AB c3).trans ((AB c4).trans ((AB c6).trans (AN (show((decide (a.kind=1) && !decide ((AG.at_ (AO V1 ls1 ev1) a.AY).state=0)) || (!decide (a.kind=1) && decide ((AG.at_ (AO V1 ls1 ev1) a.AY).state=0)))=true by rw [DN V1 ls1 ev1 hs.1 hs.2];exact c7)))))
  have hq:(AG.act (AO V ls ev) a)=_:=(AG.FM (H:=(AO V ls ev)) (show V.Bg < 400 by omega) a).trans ((congrArg (fun X=>AG.D3 X a) hX.symm).trans hq0)
  refine⟨_,⟨V1,ls1,ev1,?gv6,?ga6,J⟩,hS⟩
  case gv6=>rw [hq];rfl
  case ga6=>rw [hq]
 refine W ?_
 refine⟨fun c8 c8p=>?_,fun c8 c8p=>?_⟩
 ·
  refine Ws 32 ?_
  refine C8 (k:=a.AY) hs.1 hs.2 (fun sv sl hsv hlv hln=>?_)
  refine W ?_
  refine Ib (cs:=BT (n:=6) AT (Vector.replicate 6 default)) (cs':=(([255,251,3,255,253,31]:List Int).flatMap AT)) J Tryz.underlying117 bN bO (by decide) (by decide) (by kernel_rfl) (.cons (Ab.arr (n:=6) (i:=0) Bo (by decide) (by decide)) J J J (.cons (Ab.arr (n:=6) (i:=1) Bo (by decide) (by decide)) J J J (.cons (Ab.arr (n:=6) (i:=2) Bo (by decide) (by decide)) J J J (.cons (Ab.arr (n:=6) (i:=3) Bo (by decide) (by decide)) J J J (.cons (Ab.arr (n:=6) (i:=4) Bo (by decide) (by decide)) J J J (.cons (Ab.arr (n:=6) (i:=5) Bo (by decide) (by decide)) J J J .nil)))))) J (fun b5=>?_)
  refine W ?_
  refine Cp (fun w hS=>Be _ [255,251,3,255,253,31] (by decide) (by decide) w ((Kn.own .m0) w hS)) ?_
  refine Ws 35 ?_
  refine CZ (c':=Fj V1 a.AY (Df (CJ 2).1 (CJ 2).2)) (fun _=>(.t (.t (.t (.t .h))))) ?_ ?_
  · exact congrArg (Fj V1 a.AY) (by kernel_rfl)
  refine CA Ac 9 1 ?_
  refine CA Ac 9 1 ?_
  refine CA Ac 9 1 ?_
  refine B6 (.c (.t (.t .h)) (.c (.t .h) (.c .h (.c (.t (.t (.t (.t .h)))) (.c (.t (.t (.t (.t .h)))) .n))))) ?_
  refine Cr hs.1 hs.2 (by rfl) (by rfl) (by rfl) ?_
  refine W ?_
  refine Cl (.c .h (.c .h (.c (.t (.t (.t (.t .h)))) .n))) (B4 _ (AE.AY V1 a.AY (Df (CJ 2).1 (CJ 2).2)) (ls1.put a.AY ⟨[],[],[]⟩) ev1 a.AY _ hs (by rw [Vector.Bk hs.1 hs.2];exact Nat.zero_le _)) (fun v44 B hv=>?_)
  obtain⟨y45,y46,y47,rfl,y48,rfl⟩:=hv
  refine W ?_
  refine Cm (.c .h (.c .h (.c .h .n))) (Bi _ y45 y46 y47 1 0 (by rw [y48,(show AO (AE.AY V1 a.AY (Df (CJ 2).1 (CJ 2).2)) (ls1.put a.AY ⟨[],[],[]⟩) ev1=AG.set (AO V1 ls1 ev1) a.AY (B5 (Df (CJ 2).1 (CJ 2).2) Z1) from Fq V1 ls1 ev1 hs.1 hs.2 _ _)];exact(hF0.comes hs.1 hs.2 _ _).tell hs.1 hs.2 (show AG.CT.length≤_ by decide)) (by omega) (by omega)) (fun v49 B hv=>?_)
  obtain⟨y50,y51,y52,rfl,y53,rfl⟩:=hv
  refine W ?_
  intro w1 hS
  have hS:=(hS.perm (AK.perm (.c .h (.c .h (.c .h .n))))).AM
  have hq0:AG.D3 (AO V1 ls1 ev1) a=_:=((AB c3).trans ((AB c4).trans ((AB c6).trans ((AB (show((decide (a.kind=1) && !decide ((AG.at_ (AO V1 ls1 ev1) a.AY).state=0)) || (!decide (a.kind=1) && decide ((AG.at_ (AO V1 ls1 ev1) a.AY).state=0)))=false by rw [DN V1 ls1 ev1 hs.1 hs.2];exact c7)).trans (AN c8)))))
  have hq:(AG.act (AO V ls ev) a)=_:=(AG.FM (H:=(AO V ls ev)) (show V.Bg < 400 by omega) a).trans ((congrArg (fun X=>AG.D3 X a) hX.symm).trans hq0)
  refine⟨_,⟨y50,y51,y52,?gv7,?ga7,J⟩,hS⟩
  case gv7=>rw [hq];rfl
  case ga7=>rw [hq];dsimp only;rw [y53,y48,(show AO (AE.AY V1 a.AY (Df (CJ 2).1 (CJ 2).2)) (ls1.put a.AY ⟨[],[],[]⟩) ev1=AG.set (AO V1 ls1 ev1) a.AY (B5 (Df (CJ 2).1 (CJ 2).2) Z1) from Fq V1 ls1 ev1 hs.1 hs.2 _ _)];unfold AG.P7;rw [← Li];rfl
 refine W ?_
 refine⟨fun c9 c9p=>?_,fun c9 c9p=>?_⟩
 ·
  refine Ws 37 ?_
  refine C8 (k:=a.AY) hs.1 hs.2 (fun sv sl hsv hlv hln=>?_)
  try have:=AI.QN sv.DZ a.bytes
  refine W ?_
  intro b6
  refine Cm .n (MK _ _ _ (by have h:=QM sv.DZ a.bytes;omega) (by intro x hx;have h:=(hF0.queue a.AY hs.1 hs.2).2 x (by rw [B2 V1 ls1 ev1 hs.1 hs.2,hlv];exact hx);omega) (show sv.Ay.now.length≤9223372036854775807 from cr hs.1 hs.2 hO1 hsv) (by have h:=(hF0.queue a.AY hs.1 hs.2).1;rw [B2 V1 ls1 ev1 hs.1 hs.2,hlv] at h;exact Nat.le_trans h (by decide))) (fun v54 B hv=>?_) (fun _=>(fun w hS=>(Kn.own .m1) w hS))
  rcases hv with ⟨y55,rfl,rfl⟩ | ⟨y56,y57,rfl,y58,rfl⟩
  ·
   refine Ws 48 ?_
   intro b7
   refine B6 (.c (.t (.t .h)) (.c (.t (.t .h)) (.c (.t (.t .h)) (.c (.t (.t .h)) (.c (.t (.t .h)) .n))))) ?_
   refine Cr hs.1 hs.2 (by rfl) (by rfl) (by rfl) ?_
   refine W ?_
   refine Cm (.c .h (.c .h (.c (.t (.t .h)) .n))) (Bi _ (AE.AY V1 a.AY (heard sv a.bytes)) (ls1.put a.AY ⟨sl.queue,sl.wait,sl.told⟩) ev1 0 0 (GO hs.1 hs.2 (DJ (V:=V1) (ls:=ls1) (ev:=ev1) hs.1 hs.2 hsv hlv (Jc (u:=a.bytes) hln.2.1 hln.1 y55)) hF0) (by omega) (by omega)) (fun v60 B hv=>?_)
   obtain⟨y61,y62,y63,rfl,y64,rfl⟩:=hv
   refine W ?_
   intro w1 hS
   have hS:=(hS.perm (AK.perm (.c .h (.c .h (.c .h .n))))).AM
   have hq0:AG.D3 (AO V1 ls1 ev1) a=_:=((AB c3).trans ((AB c4).trans ((AB c6).trans ((AB (show((decide (a.kind=1) && !decide ((AG.at_ (AO V1 ls1 ev1) a.AY).state=0)) || (!decide (a.kind=1) && decide ((AG.at_ (AO V1 ls1 ev1) a.AY).state=0)))=false by rw [DN V1 ls1 ev1 hs.1 hs.2];exact c7)).trans ((AB c8).trans (AN c9))))))
   have hq:(AG.act (AO V ls ev) a)=_:=(AG.FM (H:=(AO V ls ev)) (show V.Bg < 400 by omega) a).trans ((congrArg (fun X=>AG.D3 X a) hX.symm).trans hq0)
   refine⟨_,⟨y61,y62,y63,?gv8,?ga8,J⟩,hS⟩
   case gv8=>rw [hq];rfl
   case ga8=>rw [hq];dsimp only;exact Ih hs.1 hs.2 (DJ (V:=V1) (ls:=ls1) (ev:=ev1) hs.1 hs.2 hsv hlv (Jc (u:=a.bytes) hln.2.1 hln.1 y55)) (.inr ⟨(show decide ((0:Int) < 0)=false from rfl),rfl⟩) y64
  refine W ?_
  intro b8
  refine⟨fun c10 c10p=>?_,fun c10 c10p=>?_⟩
  ·
   refine Ws 43 ?_
   refine B6 (.c (.t .h) (.c (.t (.t (.t .h))) (.c (.t (.t (.t .h))) (.c (.t (.t (.t .h))) (.c (.t (.t (.t .h))) .n))))) ?_
   refine Cr hs.1 hs.2 (by rfl) (by rfl) (by rfl) ?_
   refine W ?_
   refine Cl (.c .h (.c .h (.c (.t (.t (.t .h))) .n))) (B4 _ (AE.AY V1 a.AY { heard sv a.bytes with Ay:=⟨(Aa.feed (Aa.start sv.Ay sl.queue) (sv.DZ.CM a.bytes).2.1).now,(Aa.feed (Aa.start sv.Ay sl.queue) (sv.DZ.CM a.bytes).2.1).long,(Aa.feed (Aa.start sv.Ay sl.queue) (sv.DZ.CM a.bytes).2.1).ret,y57⟩ }) (ls1.put a.AY ⟨(Aa.feed (Aa.start sv.Ay sl.queue) (sv.DZ.CM a.bytes).2.1).queue,sl.wait,sl.told⟩) ev1 a.AY _ hs (Nat.le_trans (Cx (GO hs.1 hs.2 (DJ (V:=V1) (ls:=ls1) (ev:=ev1) hs.1 hs.2 hsv hlv (EC (u:=a.bytes) hln.2.1 hln.1 y56 y57)) hF0) a.AY hs.1 hs.2) (by omega))) (fun v65 B hv=>?_)
   obtain⟨y66,y67,y68,rfl,y69,rfl⟩:=hv
   refine W ?_
   refine Cm (.c .h (.c .h (.c .h .n))) (Bi _ y66 y67 y68 1 0 (by rw [y69];exact(GO hs.1 hs.2 (DJ (V:=V1) (ls:=ls1) (ev:=ev1) hs.1 hs.2 hsv hlv (EC (u:=a.bytes) hln.2.1 hln.1 y56 y57)) hF0).tell hs.1 hs.2 (show AG.TK.length≤_ by decide)) (by omega) (by omega)) (fun v70 B hv=>?_)
   obtain⟨y71,y72,y73,rfl,y74,rfl⟩:=hv
   refine W ?_
   intro w1 hS
   have hS:=(hS.perm (AK.perm (.c .h (.c .h (.c .h .n))))).AM
   have hq0:AG.D3 (AO V1 ls1 ev1) a=_:=((AB c3).trans ((AB c4).trans ((AB c6).trans ((AB (show((decide (a.kind=1) && !decide ((AG.at_ (AO V1 ls1 ev1) a.AY).state=0)) || (!decide (a.kind=1) && decide ((AG.at_ (AO V1 ls1 ev1) a.AY).state=0)))=false by rw [DN V1 ls1 ev1 hs.1 hs.2];exact c7)).trans ((AB c8).trans (AN c9))))))
   have hq:(AG.act (AO V ls ev) a)=_:=(AG.FM (H:=(AO V ls ev)) (show V.Bg < 400 by omega) a).trans ((congrArg (fun X=>AG.D3 X a) hX.symm).trans hq0)
   refine⟨_,⟨y71,y72,y73,?gv9,?ga9,J⟩,hS⟩
   case gv9=>rw [hq];rfl
   case ga9=>rw [hq];dsimp only;exact Ih hs.1 hs.2 (DJ (V:=V1) (ls:=ls1) (ev:=ev1) hs.1 hs.2 hsv hlv (EC (u:=a.bytes) hln.2.1 hln.1 y56 y57)) (.inl ⟨c10,y69⟩) y74
  refine Ws 48 ?_
  refine B6 (.c (.t .h) (.c (.t (.t (.t .h))) (.c (.t (.t (.t .h))) (.c (.t (.t (.t .h))) (.c (.t (.t (.t .h))) .n))))) ?_
  refine Cr hs.1 hs.2 (by rfl) (by rfl) (by rfl) ?_
  refine W ?_
  refine Cm (.c .h (.c .h (.c (.t (.t (.t .h))) .n))) (Bi _ (AE.AY V1 a.AY { heard sv a.bytes with Ay:=⟨(Aa.feed (Aa.start sv.Ay sl.queue) (sv.DZ.CM a.bytes).2.1).now,(Aa.feed (Aa.start sv.Ay sl.queue) (sv.DZ.CM a.bytes).2.1).long,(Aa.feed (Aa.start sv.Ay sl.queue) (sv.DZ.CM a.bytes).2.1).ret,y57⟩ }) (ls1.put a.AY ⟨(Aa.feed (Aa.start sv.Ay sl.queue) (sv.DZ.CM a.bytes).2.1).queue,sl.wait,sl.told⟩) ev1 0 0 (GO hs.1 hs.2 (DJ (V:=V1) (ls:=ls1) (ev:=ev1) hs.1 hs.2 hsv hlv (EC (u:=a.bytes) hln.2.1 hln.1 y56 y57)) hF0) (by omega) (by omega)) (fun v75 B hv=>?_)
  obtain⟨y76,y77,y78,rfl,y79,rfl⟩:=hv
  refine W ?_
  intro w1 hS
  have hS:=(hS.perm (AK.perm (.c .h (.c .h (.c .h .n))))).AM
  have hq0:AG.D3 (AO V1 ls1 ev1) a=_:=((AB c3).trans ((AB c4).trans ((AB c6).trans ((AB (show((decide (a.kind=1) && !decide ((AG.at_ (AO V1 ls1 ev1) a.AY).state=0)) || (!decide (a.kind=1) && decide ((AG.at_ (AO V1 ls1 ev1) a.AY).state=0)))=false by rw [DN V1 ls1 ev1 hs.1 hs.2];exact c7)).trans ((AB c8).trans (AN c9))))))
  have hq:(AG.act (AO V ls ev) a)=_:=(AG.FM (H:=(AO V ls ev)) (show V.Bg < 400 by omega) a).trans ((congrArg (fun X=>AG.D3 X a) hX.symm).trans hq0)
  refine⟨_,⟨y76,y77,y78,?gv10,?ga10,J⟩,hS⟩
  case gv10=>rw [hq];rfl
  case ga10=>rw [hq];dsimp only;exact Ih hs.1 hs.2 (DJ (V:=V1) (ls:=ls1) (ev:=ev1) hs.1 hs.2 hsv hlv (EC (u:=a.bytes) hln.2.1 hln.1 y56 y57)) (.inr ⟨c10,rfl⟩) y79
 refine W ?_
 refine⟨fun c11 c11p=>?_,fun c11 c11p=>?_⟩
 ·
  refine Ws 45 ?_
  refine C8 (k:=a.AY) hs.1 hs.2 (fun sv sl hsv hlv hln=>?_)
  refine Ws 48 ?_
  refine B6 (.c .h (.c .h (.c .h (.c .h (.c .h .n))))) ?_
  refine Cr hs.1 hs.2 (by rfl) (by rfl) (by rfl) ?_
  refine W ?_
  refine Cm (.c .h (.c .h (.c .h .n))) (Bi _ (AE.AY V1 a.AY { sv with out:=⟨sv.out.wait,sv.out.shown,sv.out.BS,sv.out.ring.drop (max 0 (min a.n (sv.out.ring.length:Int))).toNat,sv.out.cut⟩ }) (ls1.put a.AY ⟨sl.queue,sl.wait,sl.told⟩) ev1 0 0 (by rw [(show AO (AE.AY V1 a.AY { sv with out:=⟨sv.out.wait,sv.out.shown,sv.out.BS,sv.out.ring.drop (max 0 (min a.n (sv.out.ring.length:Int))).toNat,sv.out.cut⟩ }) (ls1.put a.AY ⟨sl.queue,sl.wait,sl.told⟩) ev1=AG.set (AO V1 ls1 ev1) a.AY ((AG.at_ (AO V1 ls1 ev1) a.AY).Jb a.n) from B3 hs.1 hs.2 hsv hlv (f:=fun x=>x.Jb a.n) rfl)];exact hF0.Jb hs.1 hs.2 a.n) (by omega) (by omega)) (fun v80 B hv=>?_)
  obtain⟨y81,y82,y83,rfl,y84,rfl⟩:=hv
  refine W ?_
  intro w1 hS
  have hS:=(hS.perm (AK.perm (.c .h (.c .h (.c .h .n))))).AM
  have hq0:AG.D3 (AO V1 ls1 ev1) a=_:=((AB c3).trans ((AB c4).trans ((AB c6).trans ((AB (show((decide (a.kind=1) && !decide ((AG.at_ (AO V1 ls1 ev1) a.AY).state=0)) || (!decide (a.kind=1) && decide ((AG.at_ (AO V1 ls1 ev1) a.AY).state=0)))=false by rw [DN V1 ls1 ev1 hs.1 hs.2];exact c7)).trans ((AB c8).trans ((AB c9).trans (AN c11)))))))
  have hq:(AG.act (AO V ls ev) a)=_:=(AG.FM (H:=(AO V ls ev)) (show V.Bg < 400 by omega) a).trans ((congrArg (fun X=>AG.D3 X a) hX.symm).trans hq0)
  refine⟨_,⟨y81,y82,y83,?gv11,?ga11,J⟩,hS⟩
  case gv11=>rw [hq];exact congrArg (fun x=>Value.agg (CC.enc ⟨0,x⟩).toArray) (Uk V1 ls1 ev1 hs.1 hs.2 hsv a.n)
  case ga11=>rw [hq];dsimp only;exact y84.trans (congrArg AG.BJ (show AO (AE.AY V1 a.AY { sv with out:=⟨sv.out.wait,sv.out.shown,sv.out.BS,sv.out.ring.drop (max 0 (min a.n (sv.out.ring.length:Int))).toNat,sv.out.cut⟩ }) (ls1.put a.AY ⟨sl.queue,sl.wait,sl.told⟩) ev1=AG.set (AO V1 ls1 ev1) a.AY ((AG.at_ (AO V1 ls1 ev1) a.AY).Jb a.n) from B3 hs.1 hs.2 hsv hlv (f:=fun x=>x.Jb a.n) rfl))
 refine W ?_
 refine Kt (decide_eq_true (by omega)) ?_
 refine W ?_
 refine Cm (.c .h (.c .h (.c .h .n))) (Eo _ V1 ls1 ev1 a.AY 0 0 hs hF0 (by omega) (by omega)) (fun v85 B hv=>?_)
 obtain⟨y86,y87,y88,rfl,y89,rfl⟩:=hv
 refine W ?_
 refine Cm (.c .h (.c .h (.c .h .n))) (Bi _ y86 y87 y88 11 11 (by rw [y89];exact hF0.leave hs.1 hs.2) (by omega) (by omega)) (fun v90 B hv=>?_)
 obtain⟨y91,y92,y93,rfl,y94,rfl⟩:=hv
 refine W ?_
 intro w1 hS
 have hS:=(hS.perm (AK.perm (.c .h (.c .h (.c .h .n))))).AM
 have hq0:AG.D3 (AO V1 ls1 ev1) a=_:=((AB c3).trans ((AB c4).trans ((AB c6).trans ((AB (show((decide (a.kind=1) && !decide ((AG.at_ (AO V1 ls1 ev1) a.AY).state=0)) || (!decide (a.kind=1) && decide ((AG.at_ (AO V1 ls1 ev1) a.AY).state=0)))=false by rw [DN V1 ls1 ev1 hs.1 hs.2];exact c7)).trans ((AB c8).trans ((AB c9).trans (AB c11)))))))
 have hq:(AG.act (AO V ls ev) a)=_:=(AG.FM (H:=(AO V ls ev)) (show V.Bg < 400 by omega) a).trans ((congrArg (fun X=>AG.D3 X a) hX.symm).trans hq0)
 refine⟨_,⟨y91,y92,y93,?gv12,?ga12,J⟩,hS⟩
 case gv12=>rw [hq];rfl
 case ga12=>rw [hq];dsimp only;exact y94.trans (congrArg AG.BJ y89)
end Go.Proofs.YtlmmdjaoikaceaaGreatDoor
