/- What the functions that the law HousePlays reaches compute: walks, part 5. No condition. -/
import Derived.Test.YtlmmdjaoikaceaaGreatDoorCards
import Derived.Test.YtlmmdjaoikaceaaGreatDoorTie
import Derived.Deep.DeepHandedRow
import Derived.Test.YtlmmdjaoikaceaaGreatDoorRows
import Derived.Test.YtlmmdjaoikaceaaGreatDoorHousePlaysEc3
import Derived.Test.YtlmmdjaoikaceaaGreatDoorHousePlaysRa1
import Derived.Test.YtlmmdjaoikaceaaGreatDoorHousePlaysRb1
import Derived.Test.YtlmmdjaoikaceaaGreatDoorHousePlaysRc1
import Derived.Test.YtlmmdjaoikaceaaGreatDoorHousePlaysRd1
import Derived.Test.YtlmmdjaoikaceaaGreatDoorHousePlaysWalks
import Derived.Test.YtlmmdjaoikaceaaGreatDoorHousePlaysWalks2
import Derived.Test.YtlmmdjaoikaceaaGreatDoorHousePlaysWalks3
import Derived.Test.YtlmmdjaoikaceaaGreatDoorHousePlaysWalks4
set_option linter.unusedSimpArgs false
set_option linter.unusedVariables false
set_option maxRecDepth 100000
set_option maxHeartbeats 4000000
namespace Go.Proofs.YtlmmdjaoikaceaaGreatDoor
open Go Go.Ing Go.RowKit Go.ChangeShapes Go.WideShapes Go.ChangeAt
theorem Ic (b:Nat)(V:AE)(ls:Vector Ae 4)(ev:List Ing.Event)(k:Int)(n m:Nat)(hk:0≤k∧k < 4)(hF:AG.Fit (AO V ls ev) n m)(hn:n≤900000)(hm:m≤900000):Cz Tryz.prog 42 #[.pointer (some ⟨b,0,none⟩), .pointer (some ⟨b,165+k.toNat * 22,none⟩)] [AJ.box b 95 (AE.enc V),AJ.CI (BB 9 (AE.AP V) ls),AJ.own (AE.last V) 100 16 ((ev).flatMap Ing.Event.enc)] (fun w=>(GV 3 EH w∧3 ∉ BV [AJ.box b 95 (AE.enc V),AJ.CI (BB 9 (AE.AP V) ls),AJ.own (AE.last V) 100 16 ((ev).flatMap Ing.Event.enc)])∧(GV 1 AD.Be w∧1 ∉ BV [AJ.box b 95 (AE.enc V),AJ.CI (BB 9 (AE.AP V) ls),AJ.own (AE.last V) 100 16 ((ev).flatMap Ing.Event.enc)])∧(Eo 8 w∧8 ∉ BV [AJ.box b 95 (AE.enc V),AJ.CI (BB 9 (AE.AP V) ls),AJ.own (AE.last V) 100 16 ((ev).flatMap Ing.Event.enc)])∧(Eo 9 w∧9 ∉ BV [AJ.box b 95 (AE.enc V),AJ.CI (BB 9 (AE.AP V) ls),AJ.own (AE.last V) 100 16 ((ev).flatMap Ing.Event.enc)])) (fun v B=>∃ V' ls' ev',v = .tuple #[]∧AO V' ls' ev'=AG.leave (AO V ls ev) k∧B = [AJ.box b 95 (AE.enc V'),AJ.CI (BB 9 (AE.AP V') ls'),AJ.own (AE.last V') 100 16 ((ev').flatMap Ing.Event.enc)]):=by
 intro w hS0 hH
 obtain⟨⟨gl0,gm0⟩,⟨gl1,gm1⟩,⟨gl2,gm2⟩,⟨gl3,gm3⟩⟩:=hH
 have hbe:=XM hF hk.1 hk.2
 refine AR _ _ Tryz.func42 J J J (hS0) ?_
 refine W ?_
 refine⟨fun c1 c1p=>?_,fun c1 c1p=>?_⟩
 ·
  have hdl:=AA.Kp V.w (V.AP.at k).AV AG.DN
  have hds:=AA.Kq (b:=(V.AP.at k).AV) (o:=AG.DN) hF.Fp AG.NP
  refine W ?_
  refine Ey 9 14 J J (by kernel_rfl) ?_ ?_
  ·
   refine W ?_
   refine Cm .n (GU V.w (V.AP.at k).AV AG.DN hF.Fp.Gb (Nat.zero_le _) (Nat.zero_le _)) (fun v1 B hv=>?_)
   obtain⟨y2,rfl,y3,rfl⟩:=hv
   refine Ws 3 ?_
   intro b1
   refine By (.c (.t (.t .h)) (.c (.t (.t .h)) .n)) ?_
   refine Cj (k:=k) hk.1 hk.2 (fun sv sl hsv hlv hln=>?_)
   refine Ws 4 ?_
   refine CG AX 9 1 ?_
   refine CG AX 9 1 ?_
   refine CG AX 9 1 ?_
   refine By (.c (.t (.t .h)) (.c (.t .h) (.c .h (.c (.t (.t (.t .h))) (.c (.t (.t (.t .h))) .n))))) ?_
   refine Ct hk.1 hk.2 (by rfl) (by rfl) (by rfl) ?_
   refine W ?_
   refine Cm (.c .h (.c .h (.c (.t (.t (.t (.t (.t .h))))) (.c (.t (.t (.t (.t .h)))) .n)))) (Ef _ (AE.AZ { V with w:=(AA.Dk V.w (V.AP.at k).AV AG.DN).1 } k default) (ls.put k ⟨[],[],[]⟩) ev _ (AA.Dk V.w (V.AP.at k).AV AG.DN).2.1 n (by assumption) (Cx (((hF.land hds.1).free hk.1 hk.2) |> fun h=>by rw [← JS,← FL hk.1 hk.2] at h;exact h)) (by omega) (Nat.le_trans hF.last (by omega)) (fun e he c _=>hds.2 e he)) (fun v8 B hv=>?_)
   obtain⟨y9,y10,y11,rfl,y12,rfl⟩:=hv
   refine Ws 5 ?_
   refine Cj (k:=k) hk.1 hk.2 (fun sv sl hsv hlv hln=>?_)
   refine W ?_
   intro w1 hS
   have hS:=hS.BT 9 1
   have hS:=hS.BT 9 1
   have hS:=hS.BT 9 1
   have hS:=(hS.perm (AK.perm (.c (.t (.t .h)) (.c (.t .h) (.c .h (.c (.t (.t (.t .h))) (.c (.t (.t (.t .h))) (.c (.t (.t (.t .h))) .n)))))))).AM
   have hS:=St.close' (s:=default) (qs:= []) (ws:= []) (ts:= []) hk.1 hk.2 rfl rfl rfl hS
   refine⟨_,⟨_,_,_,J,?ga1,J⟩,hS⟩
   case ga1=>exact OO hk.1 hk.2 c1 y12
  ·
   refine W ?_
   intro b2
   refine Cm .n (GU V.w (V.AP.at k).AV AG.DN hF.Fp.Gb (Nat.zero_le _) (Nat.zero_le _)) (fun v16 B hv=>?_)
   obtain⟨y17,rfl,y18,rfl⟩:=hv
   refine Ws 3 ?_
   refine By (.c (.t (.t .h)) (.c (.t (.t .h)) .n)) ?_
   refine Cj (k:=k) hk.1 hk.2 (fun sv sl hsv hlv hln=>?_)
   refine Ws 4 ?_
   refine CG AX 9 1 ?_
   refine CG AX 9 1 ?_
   refine CG AX 9 1 ?_
   refine By (.c (.t (.t .h)) (.c (.t .h) (.c .h (.c (.t (.t (.t .h))) (.c (.t (.t (.t .h))) .n))))) ?_
   refine Ct hk.1 hk.2 (by rfl) (by rfl) (by rfl) ?_
   refine W ?_
   refine Cm (.c .h (.c .h (.c (.t (.t (.t (.t (.t .h))))) (.c (.t (.t (.t .h))) .n)))) (Ef _ (AE.AZ { V with w:=(AA.Dk V.w (V.AP.at k).AV AG.DN).1 } k default) (ls.put k ⟨[],[],[]⟩) ev _ (AA.Dk V.w (V.AP.at k).AV AG.DN).2.1 n (by assumption) (Cx (((hF.land hds.1).free hk.1 hk.2) |> fun h=>by rw [← JS,← FL hk.1 hk.2] at h;exact h)) (by omega) (Nat.le_trans hF.last (by omega)) (fun e he c _=>hds.2 e he)) (fun v23 B hv=>?_)
   obtain⟨y24,y25,y26,rfl,y27,rfl⟩:=hv
   refine Ws 5 ?_
   refine Cj (k:=k) hk.1 hk.2 (fun sv sl hsv hlv hln=>?_)
   refine W ?_
   intro w1 hS
   have hS:=hS.BT 9 1
   have hS:=hS.BT 9 1
   have hS:=hS.BT 9 1
   have hS:=(hS.perm (AK.perm (.c (.t (.t .h)) (.c (.t .h) (.c .h (.c (.t (.t (.t .h))) (.c (.t (.t (.t .h))) (.c (.t (.t (.t .h))) .n)))))))).AM
   have hS:=St.close' (s:=default) (qs:= []) (ws:= []) (ts:= []) hk.1 hk.2 rfl rfl rfl hS
   refine⟨_,⟨_,_,_,J,?ga2,J⟩,hS⟩
   case ga2=>exact OO hk.1 hk.2 c1 y27
 refine Ws 5 ?_
 refine Cj (k:=k) hk.1 hk.2 (fun sv sl hsv hlv hln=>?_)
 refine W ?_
 intro w1 hS
 have hS:=hS.BT 9 1
 have hS:=hS.BT 9 1
 have hS:=hS.BT 9 1
 have hS:=(hS.perm (AK.perm (.c (.t (.t .h)) (.c (.t .h) (.c .h (.c (.t (.t (.t .h))) (.c (.t (.t (.t .h))) (.c (.t (.t (.t .h))) .n)))))))).AM
 have hS:=St.close' (s:=default) (qs:= []) (ws:= []) (ts:= []) hk.1 hk.2 rfl rfl rfl hS
 refine⟨_,⟨_,_,_,J,?ga3,J⟩,hS⟩
 case ga3=>exact Sc hk.1 hk.2 c1
theorem Qc (b:Nat)(V:AE)(ls:Vector Ae 4)(ev:List Ing.Event)(k:Int)(u:AL)(n m:Nat)(hk:0≤k∧k < 4)(hF:AG.Fit (AO V ls ev) n m)(hn:n≤900000)(hm:m≤900000)(hu:u.length≤1000):Cz Tryz.prog 112 #[.pointer (some ⟨b,0,none⟩), .pointer (some ⟨b,165+k.toNat * 22,none⟩),Ag u] [AJ.box b 95 (AE.enc V),AJ.CI (BB 9 (AE.AP V) ls),AJ.own (AE.last V) 100 16 ((ev).flatMap Ing.Event.enc)] (fun w=>(GV 3 EH w∧3 ∉ BV [AJ.box b 95 (AE.enc V),AJ.CI (BB 9 (AE.AP V) ls),AJ.own (AE.last V) 100 16 ((ev).flatMap Ing.Event.enc)])∧(GV 1 AD.Be w∧1 ∉ BV [AJ.box b 95 (AE.enc V),AJ.CI (BB 9 (AE.AP V) ls),AJ.own (AE.last V) 100 16 ((ev).flatMap Ing.Event.enc)])∧(Eo 8 w∧8 ∉ BV [AJ.box b 95 (AE.enc V),AJ.CI (BB 9 (AE.AP V) ls),AJ.own (AE.last V) 100 16 ((ev).flatMap Ing.Event.enc)])∧(Eo 9 w∧9 ∉ BV [AJ.box b 95 (AE.enc V),AJ.CI (BB 9 (AE.AP V) ls),AJ.own (AE.last V) 100 16 ((ev).flatMap Ing.Event.enc)])) (fun v B=>∃ V' ls' ev',v = .tuple #[]∧AO V' ls' ev'=AG.order (AO V ls ev) k u∧B = [AJ.box b 95 (AE.enc V'),AJ.CI (BB 9 (AE.AP V') ls'),AJ.own (AE.last V') 100 16 ((ev').flatMap Ing.Event.enc)]):=by
 intro w hS0 hH
 obtain⟨⟨gl0,gm0⟩,⟨gl1,gm1⟩,⟨gl2,gm2⟩,⟨gl3,gm3⟩⟩:=hH
 have hps:=Words.KU u
 have hdl:=AA.Kp V.w (V.AP.at k).AV (Words.parse u).1
 have hds:=AA.Kq (b:=(V.AP.at k).AV) (o:=(Words.parse u).1) hF.Fp (by have:=hps.2.2;omega)
 have htn:=Cx hF
 refine AR _ _ Tryz.func112 J J J (hS0) ?_
 refine W ?_
 intro b1
 refine⟨fun c1 c1p=>?_,fun c1 c1p=>?_⟩
 ·
  refine W ?_
  refine Cl (.c (.t .h) (.c (.t .h) (.c (.t .h) .n))) (Eg _ V ls ev k _ hk (Nat.le_trans (htn k hk.1 hk.2) (by omega))) (fun v1 B hv=>?_)
  obtain⟨y2,y3,y4,rfl,y5,rfl⟩:=hv
  refine W ?_
  intro w1 hS
  have hS:=(hS.perm (AK.perm (.c .h (.c .h (.c .h .n))))).AM
  refine⟨_,⟨y2,y3,y4,J,?ga1,J⟩,hS⟩
  case ga1=>exact y5.trans (if_pos c1).symm
 refine W ?_
 refine⟨fun c2 c2p=>?_,fun c2 c2p=>?_⟩
 ·
  refine W ?_
  refine Cm (.c (.t .h) (.c (.t .h) (.c (.t .h) .n))) (Ic _ V ls ev k n m hk hF hn hm) (fun v6 B hv=>?_)
  obtain⟨y7,y8,y9,rfl,y10,rfl⟩:=hv
  refine W ?_
  intro w1 hS
  have hS:=(hS.perm (AK.perm (.c .h (.c .h (.c .h .n))))).AM
  refine⟨_,⟨y7,y8,y9,J,?ga2,J⟩,hS⟩
  case ga2=>exact y10.trans ((AB c1).trans (AN c2)).symm
 refine W ?_
 refine Ey 9 14 J J (by kernel_rfl) ?_ ?_
 ·
  refine W ?_
  refine Cm .n (GU V.w (V.AP.at k).AV (Words.parse u).1 hF.Fp.Gb (by have:=hps.2.1;omega) (by have:=hps.1;omega)) (fun v11 B hv=>?_)
  obtain⟨y12,rfl,y13,rfl⟩:=hv
  refine W ?_
  intro b2
  refine Cm (.c (.t (.t (.t .h))) (.c (.t (.t (.t .h))) (.c (.t (.t (.t .h))) (.c (.t .h) .n)))) (Ef _ { V with w:=(AA.Dk V.w (V.AP.at k).AV (Words.parse u).1).1 } ls ev _ (AA.Dk V.w (V.AP.at k).AV (Words.parse u).1).2.1 n (by assumption) htn (by omega) (Nat.le_trans hF.last (by omega)) (fun e he c _=>hds.2 e he)) (fun v15 B hv=>?_)
  obtain⟨y16,y17,y18,rfl,y19,rfl⟩:=hv
  refine W ?_
  intro w1 hS
  have hS:=(hS.perm (AK.perm (.c .h (.c .h (.c .h .n))))).AM
  refine⟨_,⟨y16,y17,y18,J,?ga3,J⟩,hS⟩
  case ga3=>exact OR hk.1 hk.2 c1 c2 y19
 ·
  refine W ?_
  intro b3
  refine Cm .n (GU V.w (V.AP.at k).AV (Words.parse u).1 hF.Fp.Gb (by have:=hps.2.1;omega) (by have:=hps.1;omega)) (fun v20 B hv=>?_)
  obtain⟨y21,rfl,y22,rfl⟩:=hv
  refine W ?_
  refine Cm (.c (.t (.t (.t .h))) (.c (.t (.t (.t .h))) (.c (.t (.t (.t .h))) (.c .h .n)))) (Ef _ { V with w:=(AA.Dk V.w (V.AP.at k).AV (Words.parse u).1).1 } ls ev _ (AA.Dk V.w (V.AP.at k).AV (Words.parse u).1).2.1 n (by assumption) htn (by omega) (Nat.le_trans hF.last (by omega)) (fun e he c _=>hds.2 e he)) (fun v24 B hv=>?_)
  obtain⟨y25,y26,y27,rfl,y28,rfl⟩:=hv
  refine W ?_
  intro w1 hS
  have hS:=(hS.perm (AK.perm (.c .h (.c .h (.c .h .n))))).AM
  refine⟨_,⟨y25,y26,y27,J,?ga4,J⟩,hS⟩
  case ga4=>exact OR hk.1 hk.2 c1 c2 y28
theorem SY (b:Nat)(V:AE)(ls:Vector Ae 4)(ev:List Ing.Event)(k:Int)(n m:Nat)(hk:0≤k∧k < 4)(hF:AG.Fit (AO V ls ev) n m)(hn:n≤900000)(hm:m≤900000):Cz Tryz.prog 64 #[.pointer (some ⟨b,0,none⟩), .pointer (some ⟨b,165+k.toNat * 22,none⟩)] [AJ.box b 95 (AE.enc V),AJ.CI (BB 9 (AE.AP V) ls),AJ.own (AE.last V) 100 16 ((ev).flatMap Ing.Event.enc)] (fun w=>(GV 3 EH w∧3 ∉ BV [AJ.box b 95 (AE.enc V),AJ.CI (BB 9 (AE.AP V) ls),AJ.own (AE.last V) 100 16 ((ev).flatMap Ing.Event.enc)])∧(GV 1 AD.Be w∧1 ∉ BV [AJ.box b 95 (AE.enc V),AJ.CI (BB 9 (AE.AP V) ls),AJ.own (AE.last V) 100 16 ((ev).flatMap Ing.Event.enc)])∧(Eo 8 w∧8 ∉ BV [AJ.box b 95 (AE.enc V),AJ.CI (BB 9 (AE.AP V) ls),AJ.own (AE.last V) 100 16 ((ev).flatMap Ing.Event.enc)])∧(Eo 9 w∧9 ∉ BV [AJ.box b 95 (AE.enc V),AJ.CI (BB 9 (AE.AP V) ls),AJ.own (AE.last V) 100 16 ((ev).flatMap Ing.Event.enc)])) (fun v B=>∃ V' ls' ev',v = .tuple #[]∧AO V' ls' ev'=AG.Dy (AO V ls ev) k∧B = [AJ.box b 95 (AE.enc V'),AJ.CI (BB 9 (AE.AP V') ls'),AJ.own (AE.last V') 100 16 ((ev').flatMap Ing.Event.enc)]):=by
 intro w hS0 hH
 obtain⟨⟨gl0,gm0⟩,⟨gl1,gm1⟩,⟨gl2,gm2⟩,⟨gl3,gm3⟩⟩:=hH
 refine AR _ _ Tryz.func64 J J J (hS0) ?_
 refine W ?_
 refine⟨fun c1 c1p=>?_,fun c1 c1p=>?_⟩
 ·
  refine W ?_
  intro w1 hS
  have hS:=(hS.perm (AK.perm (.c .h (.c .h (.c .h .n))))).AM
  exact⟨_,⟨V,ls,ev,J,Rc hk.1 hk.2 c1,J⟩,hS⟩
 refine Ws 3 ?_
 refine Cj (k:=k) hk.1 hk.2 (fun sv sl hsv hlv hln=>?_)
 refine W ?_
 refine Cm .n (Pq _ _ (by have h:=(Qo hF hk.1 hk.2).1;rw [hlv] at h;omega)) (fun v1 B hv=>?_) (fun _=>(fun w hS=>⟨(Kn.own .m0) w hS,(VI.own .m0) w hS⟩))
 rcases hv with ⟨y2,rfl,rfl⟩ | ⟨y3,y4,y5,y6,rfl,y7,rfl⟩
 ·
  refine W ?_
  intro w1 hS
  have hS:=(hS.perm (AK.perm (.c .h (.c .h (.c .h (.c .h (.c .h (.c .h .n)))))))).AM
  have hS:=hS.close' hk.1 hk.2 (by rfl) (by rfl) (by rfl)
  refine⟨_,⟨V.AZ k sv,ls.put k ⟨sl.queue,sl.wait,sl.told⟩,ev,J,?ga2,J⟩,hS⟩
  case ga2=>exact Re hk.1 hk.2 hsv hlv y2 c1
 refine Ws 8 ?_
 refine By (.c .h (.c (.t .h) (.c (.t .h) (.c (.t .h) (.c (.t .h) .n))))) ?_
 refine Ct hk.1 hk.2 (by rfl) (by rfl) (by rfl) ?_
 refine W ?_
 refine⟨fun c2 c2p=>?_,fun c2 c2p=>?_⟩
 ·
  refine W ?_
  intro w1 hS
  have hS:=(hS.perm (AK.perm (.c .h (.c .h (.c (.t .h) .n))))).AM
  exact⟨_,⟨(AE.AZ V k { sv with Ax:=⟨sv.Ax.now,sv.Ax.long,sv.Ax.ret,y6⟩,out:=⟨sv.out.wait,0,false,sv.out.ring,sv.out.cut⟩ }),(ls.put k ⟨y4,sl.wait,sl.told⟩),ev,J,(CV (ev:=ev) hk.1 hk.2 hsv hlv y5 c1 y6).1.trans ((CV (ev:=ev) hk.1 hk.2 hsv hlv y5 c1 y6).2.2.trans (if_pos c2)).symm,J⟩,hS⟩
 refine W ?_
 refine⟨fun c3 c3p=>?_,fun c3 c3p=>?_⟩
 ·
  try have:=(hF.queue k hk.1 hk.2).2 y3 (by rw [(CV (ev:=ev) hk.1 hk.2 hsv hlv y5 c1 y6).2.1];exact List.mem_cons_self ..)
  refine W ?_
  refine Cm (.c .h (.c .h (.c (.t .h) .n))) (SX _ (AE.AZ V k { sv with Ax:=⟨sv.Ax.now,sv.Ax.long,sv.Ax.ret,y6⟩,out:=⟨sv.out.wait,0,false,sv.out.ring,sv.out.cut⟩ }) (ls.put k ⟨y4,sl.wait,sl.told⟩) ev k _ n m hk (by rw [(CV (ev:=ev) hk.1 hk.2 hsv hlv y5 c1 y6).1];exact hF.Ev hk.1 hk.2 (CV (ev:=ev) hk.1 hk.2 hsv hlv y5 c1 y6).2.1) hn hm (by have h:y3.length≤1000:=(by have h:=(hF.queue k hk.1 hk.2).2 y3 (by rw [(CV (ev:=ev) hk.1 hk.2 hsv hlv y5 c1 y6).2.1];exact List.mem_cons_self ..);omega);have h1:=Words.Mr 32 (Words.Dx 32 y3);have h2:=Words.Oa 32 y3;omega)) (fun v9 B hv=>?_)
  obtain⟨y10,y11,y12,rfl,y13,rfl⟩:=hv
  refine W ?_
  intro w1 hS
  have hS:=(hS.perm (AK.perm (.c .h (.c .h (.c .h .n))))).AM
  have c9:decide (sv.state=1)=true:=by
    have h:=c3
    rw [show(AE.AP (AE.AZ V k { sv with Ax:=⟨sv.Ax.now,sv.Ax.long,sv.Ax.ret,y6⟩,out:=⟨sv.out.wait,0,false,sv.out.ring,sv.out.cut⟩ })).at k=_ from Vector.Bi hk.1 hk.2] at h
    exact h
  refine⟨_,⟨y10,y11,y12,J,?ga4,J⟩,hS⟩
  case ga4=>exact y13.trans ((congrArg (fun X=>AG.named X k _) (CV (ev:=ev) hk.1 hk.2 hsv hlv y5 c1 y6).1).trans ((CV (ev:=ev) hk.1 hk.2 hsv hlv y5 c1 y6).2.2.trans ((AB c2).trans (AN c9))).symm)
 refine W ?_
 refine Cm (.c .h (.c .h (.c (.t .h) .n))) (Qc _ (AE.AZ V k { sv with Ax:=⟨sv.Ax.now,sv.Ax.long,sv.Ax.ret,y6⟩,out:=⟨sv.out.wait,0,false,sv.out.ring,sv.out.cut⟩ }) (ls.put k ⟨y4,sl.wait,sl.told⟩) ev k _ n m hk (by rw [(CV (ev:=ev) hk.1 hk.2 hsv hlv y5 c1 y6).1];exact hF.Ev hk.1 hk.2 (CV (ev:=ev) hk.1 hk.2 hsv hlv y5 c1 y6).2.1) hn hm (by have h:=(hF.queue k hk.1 hk.2).2 y3 (by rw [(CV (ev:=ev) hk.1 hk.2 hsv hlv y5 c1 y6).2.1];exact List.mem_cons_self ..);omega)) (fun v14 B hv=>?_)
 obtain⟨y15,y16,y17,rfl,y18,rfl⟩:=hv
 refine W ?_
 intro w1 hS
 have hS:=(hS.perm (AK.perm (.c .h (.c .h (.c .h .n))))).AM
 have c9:decide (sv.state=1)=false:=by
   have h:=c3
   rw [show(AE.AP (AE.AZ V k { sv with Ax:=⟨sv.Ax.now,sv.Ax.long,sv.Ax.ret,y6⟩,out:=⟨sv.out.wait,0,false,sv.out.ring,sv.out.cut⟩ })).at k=_ from Vector.Bi hk.1 hk.2] at h
   exact h
 refine⟨_,⟨y15,y16,y17,J,?ga5,J⟩,hS⟩
 case ga5=>exact y18.trans ((congrArg (fun X=>AG.order X k _) (CV (ev:=ev) hk.1 hk.2 hsv hlv y5 c1 y6).1).trans ((CV (ev:=ev) hk.1 hk.2 hsv hlv y5 c1 y6).2.2.trans ((AB c2).trans (AB c9))).symm)
theorem P9 (X:AD)(b:Int)(hF:(AA.Ee X b).Fit):Cz Tryz.prog 115 #[.agg X.enc.toArray, .int .i64 b] [] (fun w=>(GV 1 AD.Be w∧1 ∉ BV [])) (fun v B=>∃ h:Hd,v = .tuple #[.agg ((AA.FV X b).w.enc).toArray,h.val]∧h.len=(AA.FV X b).out.length∧B = [AJ.own h 100 16 ((AA.FV X b).out.flatMap Ing.Event.enc)]):=by
 intro w hS0 hH
 obtain⟨gl0,gm0⟩:=hH
 have hb:0≤b∧b < 6:=hF.b
 refine AR _ _ Tryz.func115 J J J (hS0) ?_
 refine W ?_
 intro b1 b2 b3
 refine Cn Ing.Event.enc 100 16 ?_
 refine W ?_
 refine Cl (.c (.t .h) (.c .h .n)) (GS _ (AA.Ee X b) _ 15 J hb (Nat.zero_le _)) (fun v2 B hv=>?_)
 obtain⟨y3,rfl,y4,rfl⟩:=hv
 refine W ?_
 refine Cl (.c .h .n) (Mi _ ((AA.Ee X b).kind 15) _ (hF.Fc J J)) (fun v5 B hv=>?_)
 obtain⟨y6,y7,rfl,rfl⟩:=hv
 refine W ?_
 refine⟨fun c1 c1p=>?_,fun c1 c1p=>?_⟩
 ·
  refine W ?_
  intro w1 hS
  have hS:=(hS.perm (AK.perm (.c (.t .h) .n))).AM
  have hq:AA.FV X b=_:=AN c1
  rw [AA.SD y7] at hq
  refine⟨_,⟨y3,?g9v,?g9l,?g9B⟩,hS⟩
  case g9v=>rw [hq];rfl
  case g9l=>rw [hq];exact y4
  case g9B=>rw [hq]
 refine Ws 10 ?_
 refine CY (fun _=> .h) (congrArg (fun q=>Ab.enc ⟨q,b,y3⟩) (AA.XG y6 hb)) ?_
 have hT2:=AA.SF y7
 have hf2:=AA.O8 hF
 rw [hT2] at hf2
 refine W ?_
 refine Cl (.c .h (.c .h .n)) (GS _ (⟨y6.Bb b { y6.AF.at b with room:=0,AW:=10 },b,((AA.Ee X b).kind 15).out⟩:AA) _ 17 y4 hb (by decide:(0:Nat)+1≤100000)) (fun v8 B hv=>?_)
 obtain⟨y9,rfl,y10,rfl⟩:=hv
 refine W ?_
 refine Cm (.c .h (.c .h .n)) (HN _ ((⟨y6.Bb b { y6.AF.at b with room:=0,AW:=10 },b,((AA.Ee X b).kind 15).out⟩:AA).kind 17) _ y10 hb hf2.br (by decide:(0:Nat)+1+1≤90000)) (fun v11 B hv=>?_)
 obtain⟨y12,rfl,y13,rfl⟩:=hv
 refine W ?_
 intro w1 hS
 have hS:=(hS.perm (AK.perm (.c (.t .h) .n))).AM
 have hq:AA.FV X b=_:=AB c1
 rw [hT2] at hq
 refine⟨_,⟨y12,?g9v,?g9l,?g9B⟩,hS⟩
 case g9v=>rw [hq];rfl
 case g9l=>rw [hq];exact y13
 case g9B=>rw [hq]
theorem NT (X:AD)(d:Int)(hw:X.Cs):Cz Tryz.prog 65 #[.agg X.enc.toArray, .int .i64 d] [] (fun w=>(GV 1 AD.Be w∧1 ∉ BV [])) (fun v B=>∃ h:Hd,v = .tuple #[.agg ((AA.BX X d).1.enc).toArray,h.val, .int .i64 (AA.BX X d).2.2]∧h.len=(AA.BX X d).2.1.length∧B = [AJ.own h 100 16 ((AA.BX X d).2.1.flatMap Ing.Event.enc)]):=by
 intro w hS0 hH
 obtain⟨gl0,gm0⟩:=hH
 have hm:=Cq d
 refine AR _ _ Tryz.func65 J J J (hS0) ?_
 refine W ?_
 intro b1 b2
 refine⟨fun c1 c1p=>?_,fun c1 c1p=>?_⟩
 ·
  refine W ?_
  intro w1 hS
  have hS:=hS.BT 100 16
  have hS:=(hS.perm (AK.perm (.c .h .n))).AM
  have hq:AA.BX X d=_:=AN c1
  refine⟨_,⟨⟨none,0,0⟩,?g9v,?g9l,?g9B⟩,hS⟩
  case g9v=>rw [hq];rfl
  case g9l=>rw [hq];rfl
  case g9B=>rw [hq];rfl
 refine W ?_
 refine Af (.t5 7 18 1 2 4) ?_
 refine CG Ing.Event.enc 100 16 ?_
 refine AY (.t (.t .h)) ?_
 refine AY (.t .h) ?_
 refine Bo (fun(k:Int) (s:AD × List Ing.Event) (h:Hd)=>0≤k∧k≤6∧s=AA.DG X d k.toNat∧s.1.A5=true∧s.1.Cs∧(s.2.length:Int)≤13 * k∧h.len=s.2.length) (fun(k:Int) (s:AD × List Ing.Event) (h:Hd)=>(6 - k).toNat) (fun(k:Int) (s:AD × List Ing.Event) (h:Hd)=> [(7,h.val),(18, .int .i64 k)]) (fun(k:Int) (s:AD × List Ing.Event) (h:Hd)=> [AJ.own h 100 16 (s.2.flatMap Ing.Event.enc),AJ.box b1 52 (AD.enc s.1)]) (0) ((X,[])) (_) ?_ J J (fun k s h hI1=>?_)
 · exact⟨by omega,by omega,rfl,by simpa using c1,hw,by simp,rfl⟩
 obtain⟨hI11,hI12,hI13,hI14,hI15,hI16,hI17⟩:=hI1
 refine W ?_
 refine⟨fun c2 c2p=>?_,fun c2 c2p=>?_⟩
 ·
  have hbe:=AA.GN hI14 hI11 (show k < 6 by omega)
  have hfo:=hbe.A2
  try have:=Cq (d.tmod 3+3+k)
  refine W ?_
  intro b3
  refine⟨fun c3 c3p=>?_,fun c3 c3p=>?_⟩
  ·
   try have:=Cq (d.tmod 3+3+k)
   refine W ?_
   refine Ap (k+1) (s) _ ?_ ?_ (.t5 7 18 1 2 4) (.cons _ (.refl _))
   · have hrs:AA.DW d k s=_:=(AN c3)
     have hrg:=AA.C6 (draw:=d) hI14 hI15 hI11 (by omega)
     rw [hrs] at hrg
     exact⟨by omega,by omega,by rw [AA.DO hI11,← hI13,hrs],hrg.1,hrg.2.1,(by have:=hrg.2.2;omega),(by first | assumption | (have hso:(AA.Aq s.1 k ((s.1.AF.at k).A2 - 1) (AA.hit d k)).out.length=1:=rfl;(try dsimp only at *);simp only [List.length_append] at *;omega))⟩
   · omega
  have hf0:0≤((s.1.AF.at k).A2 - 1)∧((s.1.AF.at k).A2 - 1) < 6:=by omega
  have hbf:=(AA.GN hI14 hf0.1 hf0.2).AW
  try have:=Cq (d.tmod 3+3+k)
  refine W ?_
  refine⟨fun c4 c4p=>?_,fun c4 c4p=>?_⟩
  ·
   try have:=Cq (d.tmod 3+3+k)
   refine W ?_
   refine Ap (k+1) ((s.1.Bb k { s.1.AF.at k with A2:=0 },s.2)) _ ?_ ?_ (.t5 7 18 1 2 4) (.cons _ (.refl _))
   · have hrs:AA.DW d k s=_:=((AB c3).trans (AN c4))
     have hrg:=AA.C6 (draw:=d) hI14 hI15 hI11 (by omega)
     rw [hrs] at hrg
     exact⟨by omega,by omega,by rw [AA.DO hI11,← hI13,hrs],hrg.1,hrg.2.1,(by have:=hrg.2.2;omega),(by first | assumption | (have hso:(AA.Aq s.1 k ((s.1.AF.at k).A2 - 1) (AA.hit d k)).out.length=1:=rfl;(try dsimp only at *);simp only [List.length_append] at *;omega))⟩
   · omega
  have hsf:=AA.Jk (b:=k) (n:=AA.hit d k) hI14 hI15 (A2:=((s.1.AF.at k).A2 - 1)) hf0.1 hf0.2 c4p.1
  have hht:=AA.MQ (draw:=d) hI11
  try have:=Cq (d.tmod 3+3+k)
  refine W ?_
  intro b4
  refine Cn Ing.Event.enc 100 16 ?_
  refine W ?_
  refine Cl (.c (.t .h) (.c .h .n)) (Bt _ ⟨s.1,k,[]⟩ _ { AA.Dn 14 with other:=((s.1.AF.at k).A2 - 1),n:=AA.hit d k } J (show 0≤k∧k < 6 by omega) (show((s.1.AF.at k).A2 - 1) < 6 by omega) (Nat.zero_le _)) (fun v3 B hv=>?_)
  obtain⟨y4,rfl,y5,rfl⟩:=hv
  try have:=Cq (d.tmod 3+3+k)
  refine Ws 16 ?_
  have hl1:y4.len=1:=y5
  try have:=Cq (d.tmod 3+3+k)
  refine W ?_
  intro h6 h6l h6z
  refine⟨fun c5 c5p=>?_,fun c5 c5p=>?_⟩
  ·
   refine W ?_
   refine Cm .n (P9 (AA.Aq s.1 k ((s.1.AF.at k).A2 - 1) (AA.hit d k)).w ((s.1.AF.at k).A2 - 1) hsf) (fun v7 B hv=>?_)
   obtain⟨y8,rfl,y9,rfl⟩:=hv
   refine Ws 21 ?_
   have hl2:y8.len≤12:=by rw [y9];exact(AA.Qy hsf).2.2
   try have:=Cq (d.tmod 3+3+k)
   refine W ?_
   intro h11 h11l h11z
   refine Ap (k+1) (((AA.FV (AA.Aq s.1 k ((s.1.AF.at k).A2 - 1) (AA.hit d k)).w ((s.1.AF.at k).A2 - 1)).w,(s.2++(AA.Aq s.1 k ((s.1.AF.at k).A2 - 1) (AA.hit d k)).out)++(AA.FV (AA.Aq s.1 k ((s.1.AF.at k).A2 - 1) (AA.hit d k)).w ((s.1.AF.at k).A2 - 1)).out)) _ ?_ ?_ (.t5 7 18 1 2 4) (.cons _ (.cons _ (.cons _ (.cons _ (.refl _)))))
   · have hrs:AA.DW d k s=_:=((AB c3).trans ((AB c4).trans (AN c5)))
     have hrg:=AA.C6 (draw:=d) hI14 hI15 hI11 (by omega)
     rw [hrs] at hrg
     exact⟨by omega,by omega,by rw [AA.DO hI11,← hI13,hrs],hrg.1,hrg.2.1,(by have:=hrg.2.2;omega),(by first | assumption | (have hso:(AA.Aq s.1 k ((s.1.AF.at k).A2 - 1) (AA.hit d k)).out.length=1:=rfl;(try dsimp only at *);simp only [List.length_append] at *;omega))⟩
   · omega
  try have:=Cq (d.tmod 3+3+k)
  refine W ?_
  refine Ap (k+1) (((AA.Aq s.1 k ((s.1.AF.at k).A2 - 1) (AA.hit d k)).w,s.2++(AA.Aq s.1 k ((s.1.AF.at k).A2 - 1) (AA.hit d k)).out)) _ ?_ ?_ (.t5 7 18 1 2 4) (.cons _ (.cons _ (.cons _ (.refl _))))
  · have hrs:AA.DW d k s=_:=((AB c3).trans ((AB c4).trans (AB c5)))
    have hrg:=AA.C6 (draw:=d) hI14 hI15 hI11 (by omega)
    rw [hrs] at hrg
    exact⟨by omega,by omega,by rw [AA.DO hI11,← hI13,hrs],hrg.1,hrg.2.1,(by have:=hrg.2.2;omega),(by first | assumption | (have hso:(AA.Aq s.1 k ((s.1.AF.at k).A2 - 1) (AA.hit d k)).out.length=1:=rfl;(try dsimp only at *);simp only [List.length_append] at *;omega))⟩
  · omega
 obtain rfl:k=6:=by omega
 refine W ?_
 intro w1 hS
 have hS:=(hS.perm (AK.perm (.c .h .n))).AM
 have hq:AA.BX X d=((AA.DG X d 6).1,(AA.DG X d 6).2,0):=AB c1
 have hs6:s=AA.DG X d 6:=hI13
 rw [← hs6] at hq
 refine⟨_,⟨h,?g9v,?g9l,?g9B⟩,hS⟩
 case g9v=>rw [hq];(try rfl)
 case g9l=>rw [hq];exact hI17
 case g9B=>rw [hq];(try rfl)
theorem E5 (p:A9)(s:AL)(hs:s.length≤9000000000000000000)(w:World):Ch Tryz.prog 37 #[.agg p.enc.toArray,Ag s] w fun v w'=>v = .tuple #[.agg (A9.enc ⟨p.wait,(Page.send p s).1.shown,(Page.send p s).1.BL,(Page.send p s).1.ring,(Page.send p s).1.cut⟩).toArray, .int .i64 (Page.send p s).2]∧BF w w':=by
 refine Rb Tryz.func37 ?_
 refine W ?_
 intro b1 b2
 refine⟨fun c1 c1p=>?_,fun c1 c1p=>?_⟩
 ·
  refine W ?_
  simp only [Page.send,Page.put,Page.of,c1,↓reduceIte,Bool.false_eq_true];rfl
 have hg:=(Page.EU p).1 (by simpa using c1)
 refine W ?_
 refine⟨fun c2 c2p=>?_,fun c2 c2p=>?_⟩
 ·
  refine W ?_
  rw [show Page.send p s=(Page.of p,6) from by simp only [Page.send,c1,c2,↓reduceIte,Bool.false_eq_true]];rfl
 refine W ?_
 refine⟨fun c3 c3p=>?_,fun c3 c3p=>?_⟩
 ·
  refine W ?_
  simp only [Page.send,Page.put,Page.of,c1,c2,c3,↓reduceIte,Bool.false_eq_true];rfl
 refine W ?_
 simp only [Page.send,Page.put,Page.of,c1,c2,c3,↓reduceIte,Bool.false_eq_true];rfl
instance instP37:DI Tryz.prog 37 (type_of% @E5):=⟨@E5⟩
theorem Hv (b:Nat)(m:Int)(h0:0 < m)(h1:m≤281474976710656):Fu Tryz.prog 229 #[.pointer (some ⟨b,0,none⟩), .int .i64 m] [AJ.box b 136 (D1.enc ⟨some ⟨b,0,none⟩,⟨none,0,0⟩⟩)] (fun v B=>∃ h',v = .tuple #[]∧h'.Z∧h'.len=0∧B = [AJ.box b 136 (D1.enc ⟨some ⟨b,0,none⟩,h'⟩),AJ.own h' 5 1 (([]:AL).flatMap CE)]):=by
 intro w hS0
 refine AR _ _ Tryz.func229 J J J (hS0) ?_
 refine Y5 ?_
 refine Wc (N:=16) [0,1,3,7,15,31,0,127,255,0,512,1536,3584,7680,16383,32767] mix (by kernel_rfl) J ?_
 refine Pf 0 J (JQ J) (Pf 1 J (iJ J) (Pf 2 J (iI MP J) (Pf 3 J (MD J S1 .m0 D1.l1 J J) (Pf 4 J (MC J Tryz.underlying122 J) ?_))))
 refine Pf 5 J (ZJ J J (IntWalk.i64_in _ (by first | omega | (dsimp only;omega)))) ?_
 refine Pf 6 J (JQ J) ?_
 refine Pf 7 J (ZC J J (IntWalk.i64_in _ (by first | omega | (dsimp only;omega)))) ?_
 refine Pf 9 J (JQ J) (Pf 10 J (iJ J) (Pf 11 J (iI MP J) (Pf 12 J (MD J S1 .m0 D1.l1 J J) (Pf 13 J (JP J Tryz.underlying122 J) ?_))))
 refine LX 8 J (by kernel_rfl) ?_
 refine S7 (ps:=#[3]) J Tryz.func238 (by kernel_rfl) (by kernel_rfl) (by kernel_rfl) (by kernel_rfl) Tryz.underlying122 Qk J (by first | omega | (dsimp only;omega)) (by first | omega | (dsimp only;omega)) (fun b1 b1c b1x b1l b1k=>?_)
 refine Rn J ⟨?_,?_⟩
 · exact(Po J (JP J Tryz.underlying122 J) J J (Po J (MD J S1 .m1 D1.l1 J J) J J (Po J (iI MP J) J J (Po J (iJ J) J J (Po J (JQ J) J J (Pk (Pk (Pk (Pk (Pk (Pk (Pk (Pk Ov)))))))))))))
 refine LX 14 J (by kernel_rfl) ?_
 refine Qp SI J Tryz.underlying122 Qk J J (by first | omega | (dsimp only;omega)) (by first | omega | (dsimp only;omega)) (fun _=> .h) ?_
 refine Rn J ⟨?_,?_⟩
 · exact(Pk (Pk (Pk (Pk (Pk (Pk (Pk (Pk (Pk (Pk (Pk (Pk (Pk Ov)))))))))))))
 refine Pf 15 J (Km J) ?_
 refine TM (by kernel_rfl) ?_
 refine Y1 (.t2 0 4) ?_
 refine Rq (Gs (Gm J (Gm J (Gt (iJ J) (Gt (iI MP J) (Gt (MD J S1 .m1 D1.l1 J J) (Gt (ZE J Tryz.underlying122 Qk J J) ?_)))))))
 refine Gn (.t2 0 4) (KA (Gm J (Gm J (Gt (iJ J) (Gt (iI MP J) ?_)))))
 refine EJ (TK D1.l1 J J J eC J (.t .h)) ?_
 refine Oe ?_
 refine Y0 J .n ?_
 intro w1 hS
 have hS:=(hS.perm (AK.perm (.c (.t .h) (.c .h .n)))).AM
 exact⟨_,⟨_,J,⟨by intro a h;cases h;rfl,fun _=>by dsimp only at b1k ⊢;omega⟩,rfl,rfl⟩,hS⟩
theorem Hu (b:Nat)(m:Int)(h0:0≤m)(h1:m≤281474976710656):Fu Tryz.prog 213 #[.pointer (some ⟨b,0,none⟩), .int .i64 m] [AJ.box b 136 (D1.enc ⟨none,⟨none,0,0⟩⟩)] (fun v B=>∃ h',v = .tuple #[]∧h'.Z∧h'.len=0∧B = [AJ.box b 136 (D1.enc ⟨some ⟨b,0,none⟩,h'⟩),AJ.own h' 5 1 (([]:AL).flatMap CE)]):=by
 intro w hS0
 refine AR _ _ Tryz.func213 J J J (hS0) ?_
 refine W ?_
 refine Cl (.c .h .n) (Cf _ _ _ (.inl J)) (fun v1 B hv=>?_)
 obtain⟨rfl,rfl⟩:=hv
 refine W ?_
 refine Kf (by simp;omega) ?_
 refine W ?_
 refine⟨fun c1 c1p=>?_,fun c1 c1p=>?_⟩
 ·
  refine W ?_
  refine Cl (.c .h .n) (Hv _ _ (by dsimp only at *;omega) h1) (fun v2 B hv=>?_)
  obtain⟨y3,rfl,y4,y5,rfl⟩:=hv
  refine W ?_
  intro w1 hS
  have hS:=(hS.perm (AK.perm (.c .h (.c .h .n)))).AM
  exact⟨_,⟨_,J,by assumption,by assumption,rfl⟩,hS⟩
 refine W ?_
 intro w1 hS
 have hS:=hS.BT 5 1
 have hS:=(hS.perm (AK.perm (.c (.t .h) (.c .h .n)))).AM
 exact⟨_,⟨_,J,Hd.We,J,J⟩,hS⟩
theorem Gr (s:AL)(hs:s.length≤70368744000000)(w:World):Ch Tryz.prog 190 #[Ag s,Ag [255],Ag [255,255], .int .i64 (-1)] w fun v w'=>v=Ag (Page.escape s)∧BF w w':=by
 have hcl:=List.count_le_length (a:=(255:UInt8)) (l:=s)
 refine Rb Tryz.func190 ?_
 refine W ?_
 refine⟨fun c1 c1p=>?_,fun c1 c1p=>?_⟩
 ·
  refine W ?_
  have e:s.count 255=0:=by simp at c1;omega
  rw [Page.Ng _ e];rfl
 refine W ?_
 intro b1
 refine Cl (.c (.t .h) .n) (Hu _ _ (by simp only [List.length_cons,List.length_nil];omega) (by simp only [List.length_cons,List.length_nil];omega)) (fun v1 B hv=>?_)
 obtain⟨y2,rfl,y3,y4,rfl⟩:=hv
 refine W ?_
 refine Af (.t7 11 53 0 1 2 10 52) ?_
 refine AY (.t .h) ?_
 refine AY (.t .h) ?_
 refine J9 (fun(k:Int) (start:Int) (x:AL) (p:Option Addr) (h:Hd)=>Page.Ry s (s.count 255) k start x∧(p=none∨p=some ⟨b1,0,none⟩)∧h.Z∧h.len=x.length) (fun(k:Int) (start:Int) (x:AL) (p:Option Addr) (h:Hd)=>((s.count 255:Int) - k).toNat) (fun(k:Int) (start:Int) (x:AL) (p:Option Addr) (h:Hd)=> [(11, .int .i64 start),(53, .int .i64 k)]) (fun(k:Int) (start:Int) (x:AL) (p:Option Addr) (h:Hd)=> [AJ.box b1 136 (D1.enc ⟨p,h⟩),AJ.own h 5 1 (x.flatMap CE)]) (0) (0) ([]) (_) (_) ?_ J J (fun k start x p h hI1=>?_)
 · exact⟨Page.Ry.start J, .inr J,by assumption,by assumption⟩
 obtain⟨hI11,hp,hz,hl⟩:=hI1;have hk0:=hI11.k0;have hs0:=hI11.s0;have hs1:=hI11.s1;have hxl:=hI11.xl
 refine W ?_
 refine⟨fun c2 c2p=>?_,fun c2 c2p=>?_⟩
 ·
  obtain⟨i,hi,hlt,hR⟩:=hI11.idx (by omega)
  rw [← hi] at hR hlt
  refine W ?_
  refine Cl (.c .h (.c .h .n)) (Av _ _ _ _ (by assumption) (by assumption) (by assumption) _ (by(try simp only [List.length_drop,List.length_take,List.length_append,List.length_cons,List.length_nil]);omega)) (fun v6 B hv=>?_)
  obtain⟨y7,y8,rfl,y9,y10,y11,rfl⟩:=hv
  refine W ?_
  refine Cl (.c .h (.c .h .n)) (Av _ _ _ _ (by assumption) (by assumption) (by assumption) _ (by(try simp only [List.length_drop,List.length_take,List.length_append,List.length_cons,List.length_nil]);omega)) (fun v12 B hv=>?_)
  obtain⟨y13,y14,rfl,y15,y16,y17,rfl⟩:=hv
  refine W ?_
  refine C7 (k+1) _ _ _ _ ?_ ?_ (.t7 11 53 0 1 2 10 52) (.refl _)
  · exact⟨hR,by assumption,by assumption,by assumption⟩
  · omega
 refine W ?_
 refine Cl (.c .h (.c .h .n)) (Av _ _ _ _ (by assumption) (by assumption) (by assumption) _ (by(try simp only [List.length_drop,List.length_take,List.length_append,List.length_cons,List.length_nil]);omega)) (fun v18 B hv=>?_)
 obtain⟨y19,y20,rfl,y21,y22,y23,rfl⟩:=hv
 refine W ?_
 refine Cl (.c .h (.c .h .n)) (CP _ _ _ _ (by assumption) (by assumption) (by(try simp only [List.length_append,List.length_drop]);omega)) (fun v24 B hv=>?_)
 obtain⟨rfl,rfl⟩:=hv
 refine W ?_
 rw [← hI11.done (by omega)];rfl
instance instP190:DI Tryz.prog 190 (type_of% @Gr):=⟨@Gr⟩
theorem FO (s:AL)(hs:s.length≤70368744000000)(w:World):Ch Tryz.prog 158 #[Ag s,Ag [255],Ag [255,255]] w fun v w'=>v=Ag (Page.escape s)∧BF w w':=by
 refine Rb Tryz.func158 ?_
 refine W ?_
 rfl
instance instP158:DI Tryz.prog 158 (type_of% @FO):=⟨@FO⟩
theorem Hp (s:AL)(hs:s.length≤70368744000000)(w:World):Ch Tryz.prog 121 #[Ag s] w fun v w'=>v=Ag (Page.escape s)∧BF w w':=by
 refine Rb Tryz.func121 ?_
 refine W ?_
 rfl
instance instP121:DI Tryz.prog 121 (type_of% @Hp):=⟨@Hp⟩
theorem N9 {t0:Nat}(p:A9)(qs:List AL)(top:Int)(hs:∀ s∈qs,s.length≤70368744000000):Cz Tryz.prog 81 #[.agg p.enc.toArray, .int .i64 top] [] (fun w=>Rd w p.wait t0 1 (qs.flatMap AX)∧p.wait.len≤p.wait.cap) (fun v B=>((!Page.A5 p || decide (top < 0) || decide (200 < top))=true∧v = .tuple #[.agg p.enc.toArray, .int .i64 2]∧B = [])∨((!Page.A5 p || decide (top < 0) || decide (200 < top))=false∧∃(T:Nat) (h' g:Hd) (zs:List AL),v = .tuple #[.agg (A9.enc ⟨h',(Page.BJ top qs (Page.of p)).1.shown,(Page.BJ top qs (Page.of p)).1.BL,(Page.BJ top qs (Page.of p)).1.ring,(Page.BJ top qs (Page.of p)).1.cut⟩).toArray, .int .i64 0]∧h'.len=(Page.BJ top qs (Page.of p)).2.length∧fw T h' (Page.BJ top qs (Page.of p)).2 t0 p.wait qs 9 g zs∧B = [AJ.own g 9 1 (zs.flatMap AX)])):=by
 intro w hS0 hH
 obtain⟨r0,k0⟩:=hH
 have hl0:=r0.Gh Cr (by decide)
 refine AR _ _ Tryz.func81 J J J (hS0) ?_
 refine W ?_
 intro b1 b2
 refine⟨fun c1 c1p=>?_,fun c1 c1p=>?_⟩
 ·
  refine W ?_
  intro w1 hS
  have hS:=(hS.perm (AK.perm .n)).AM
  exact⟨_, .inl ⟨c1,J,J⟩,hS⟩
 have hgd:Page.A5 p=true∧0≤top∧top≤200:=by simp at c1;exact⟨c1.1.1,by omega,by omega⟩
 refine W ?_
 refine Af (.t3 1 2 4) ?_
 refine CG AX 9 1 ?_
 refine AY (.t (.t .h)) ?_
 refine AY (.t .h) ?_
 refine Y3 (fun(rest:List AL) (sh:Int) (ak:Bool) (ring:AL) (ct:Bool) (T:Nat) (hx:Hd) (g:Hd) (zs:List AL)=>Page.FI top qs (Page.of p) rest hx ⟨sh,ak,ring,ct⟩∧fw T hx rest t0 p.wait qs 9 g zs) (fun(rest:List AL) (sh:Int) (ak:Bool) (ring:AL) (ct:Bool) (T:Nat) (hx:Hd) (g:Hd) (zs:List AL)=>rest.length) (fun(rest:List AL) (sh:Int) (ak:Bool) (ring:AL) (ct:Bool) (T:Nat) (hx:Hd) (g:Hd) (zs:List AL)=> []) (fun(rest:List AL) (sh:Int) (ak:Bool) (ring:AL) (ct:Bool) (T:Nat) (hx:Hd) (g:Hd) (zs:List AL)=> [AJ.own g 9 1 (zs.flatMap AX),AJ.box b1 60 (A9.enc ⟨hx,sh,ak,ring,ct⟩)]) (qs) (p.shown) (p.BL) (p.ring) (p.cut) (t0) (p.wait) (_) (_) ?_ J J (fun rest sh ak ring ct T hx g zs hI1=>?_)
 · exact⟨Page.FI.start hgd.1 hl0 hs, .inl ⟨J,J,J,J,J⟩⟩
 obtain⟨hI11,hor⟩:=hI1;have hl:=hI11.hl;have hn:=hI11.n;have hr:=hI11.ring;have hs0:=hI11.s0;have hs1:=hI11.s1;dsimp only at hr hs0 hs1
 refine W ?_
 refine⟨fun c2 c2p=>?_,fun c2 c2p=>?_⟩
 ·
  have hc3:0 < rest.length∧ak=false∧ct=false:=by simp at c2;exact⟨by omega,c2.1.2,c2.2⟩
  obtain⟨hc0,hak,hct⟩:=hc3
  obtain⟨q,r,rfl⟩:=Aa.OK (qs:=rest) (by omega)
  refine W ?_
  refine⟨fun c3 c3p=>?_,fun c3 c3p=>?_⟩
  ·
   try have:=Page.FC ((q :: r).getD (0:Int).toNat [])
   try have:=hI11.len ((q :: r).getD (0:Int).toNat []) (by simp)
   refine W ?_
   intro w1 hS
   have hS:=(hS.perm (AK.perm (.c .h .n))).AM
   have e:=hI11.asks hak hct c3
   exact⟨_, .inr ⟨c1,T,hx,g,zs,(by first | (rw [e];done) | (rw [e];rfl)),(by rw [e];exact hI11.hl),(by rw [e];exact hor),J⟩,hS⟩
  refine W ?_
  refine Gt (Ot Tryz.underlying56 OZ J J (by decide) (by first | omega | (have h1:=Page.FC ((q :: r).getD (0:Int).toNat []);have h2:=hI11.len ((q :: r).getD (0:Int).toNat []) (by simp);simp only [List.length_append,List.length_cons,List.length_nil] at *;omega))) ?_
  refine W ?_
  refine Cm .n (BS _ r (by simp only [List.length_cons] at *;omega)) (fun v2 B hv=>?_) (fun _=>(fun w hS=>by have h:=(Kn.cut (l:=1) (r:=hx.len) Cr (gj hor (Kn.Il r0) (Kn.own .m0)) (by omega) (Nat.le_refl _) (gi hor (VI.of k0) (VI.own .m0))) w hS;rw [show(((q :: r).take hx.len).drop 1)=r from by rw [List.take_of_length_le (by simp only [List.length_cons] at *;omega)];rfl] at h;exact h))
  obtain⟨y3,rfl,y4,rfl⟩:=hv
  try have:=Page.FC ((q :: r).getD (0:Int).toNat [])
  try have:=hI11.len ((q :: r).getD (0:Int).toNat []) (by simp)
  refine W ?_
  refine Ar (.c .h (.c (.t .h) (.c (.t .h) .n))) ?_
  refine Az ?_
  refine XP (r) _ _ _ _ (9) _ _ (r) ?_ ?_ (.t3 1 2 4) (.refl _)
  · exact⟨hI11.next hak hct c3 (by assumption) J, .inr ⟨J,J,J⟩⟩
  · simp only [List.length_cons];omega
 refine W ?_
 intro w1 hS
 have hS:=(hS.perm (AK.perm (.c .h .n))).AM
 have e:=hI11.dr c2
 exact⟨_, .inr ⟨c1,T,hx,g,zs,(by first | (rw [e];done) | (rw [e];rfl)),(by rw [e];exact hI11.hl),(by rw [e];exact hor),J⟩,hS⟩
theorem Du (b:Nat)(V:AE)(ls:Vector Ae 4)(ev:List Ing.Event)(n m:Nat)(hF:AG.Fit (AO V ls ev) n m)(hn:n≤600000)(hm:m≤600000):Cz Tryz.prog 40 #[.pointer (some ⟨b,0,none⟩)] [AJ.box b 95 (AE.enc V),AJ.CI (BB 9 (AE.AP V) ls),AJ.own (AE.last V) 100 16 ((ev).flatMap Ing.Event.enc)] (fun w=>(GV 3 EH w∧3 ∉ BV [AJ.box b 95 (AE.enc V),AJ.CI (BB 9 (AE.AP V) ls),AJ.own (AE.last V) 100 16 ((ev).flatMap Ing.Event.enc)])∧(GV 1 AD.Be w∧1 ∉ BV [AJ.box b 95 (AE.enc V),AJ.CI (BB 9 (AE.AP V) ls),AJ.own (AE.last V) 100 16 ((ev).flatMap Ing.Event.enc)])∧(Eo 8 w∧8 ∉ BV [AJ.box b 95 (AE.enc V),AJ.CI (BB 9 (AE.AP V) ls),AJ.own (AE.last V) 100 16 ((ev).flatMap Ing.Event.enc)])∧(Eo 9 w∧9 ∉ BV [AJ.box b 95 (AE.enc V),AJ.CI (BB 9 (AE.AP V) ls),AJ.own (AE.last V) 100 16 ((ev).flatMap Ing.Event.enc)])) (fun v B=>∃ V' ls' ev',v = .tuple #[]∧AO V' ls' ev'=AG.BJ (AO V ls ev)∧B = [AJ.box b 95 (AE.enc V'),AJ.CI (BB 9 (AE.AP V') ls'),AJ.own (AE.last V') 100 16 ((ev').flatMap Ing.Event.enc)]):=by
 intro w hS0 hH
 obtain⟨⟨gl0,gm0⟩,⟨gl1,gm1⟩,⟨gl2,gm2⟩,⟨gl3,gm3⟩⟩:=hH
 refine AR _ _ Tryz.func40 J J J (hS0) ?_
 refine W ?_
 refine Af (.t2 5 0) ?_
 refine AY (.t (.t .h)) ?_
 refine AY (.t (.t .h)) ?_
 refine AY (.t (.t .h)) ?_
 refine D2 (fun(k:Int) (V1:AE) (ls1:Vector Ae 4) (ev1:List Ing.Event)=>0≤k∧k≤5∧(AO V ls ev).BJ=(AO V1 ls1 ev1).HV (5 - k).toNat∧AG.Fit (AO V1 ls1 ev1) (n+44 * k.toNat) (m+44 * k.toNat)) (fun(k:Int) (V1:AE) (ls1:Vector Ae 4) (ev1:List Ing.Event)=>(5 - k).toNat) (fun(k:Int) (V1:AE) (ls1:Vector Ae 4) (ev1:List Ing.Event)=> [(5, .int .i64 k)]) (fun(k:Int) (V1:AE) (ls1:Vector Ae 4) (ev1:List Ing.Event)=> [AJ.box b 95 (AE.enc V1),AJ.CI (BB 9 (AE.AP V1) ls1),AJ.own (AE.last V1) 100 16 (ev1.flatMap Ing.Event.enc)]) (0) (V) (ls) (ev) ?_ J J (fun k V1 ls1 ev1 hI1=>?_)
 · exact⟨by omega,by omega,rfl,hF⟩
 obtain⟨hI11,hI12,hI13,hI14⟩:=hI1
 refine W ?_
 refine⟨fun c1 c1p=>?_,fun c1 c1p=>?_⟩
 ·
  refine W ?_
  refine Af (.t4 2 7 0 5) ?_
  refine AY (.t (.t .h)) ?_
  refine AY (.t (.t .h)) ?_
  refine AY (.t (.t .h)) ?_
  refine J9 (fun(i:Int) (V2:AE) (ls2:Vector Ae 4) (ev2:List Ing.Event) (c:Bool)=>0≤i∧i≤4∧((AO V2 ls2 ev2),c)=(AO V1 ls1 ev1).CH i.toNat) (fun(i:Int) (V2:AE) (ls2:Vector Ae 4) (ev2:List Ing.Event) (c:Bool)=>(4 - i).toNat) (fun(i:Int) (V2:AE) (ls2:Vector Ae 4) (ev2:List Ing.Event) (c:Bool)=> [(2, .bool c),(7, .int .i64 i)]) (fun(i:Int) (V2:AE) (ls2:Vector Ae 4) (ev2:List Ing.Event) (c:Bool)=> [AJ.box b 95 (AE.enc V2),AJ.CI (BB 9 (AE.AP V2) ls2),AJ.own (AE.last V2) 100 16 (ev2.flatMap Ing.Event.enc)]) (0) (V1) (ls1) (ev1) (false) ?_ J J (fun i V2 ls2 ev2 c hI2=>?_)
  · exact⟨by omega,by omega,rfl⟩
  obtain⟨hI21,hI22,hI23⟩:=hI2
  refine W ?_
  refine⟨fun c2 c2p=>?_,fun c2 c2p=>?_⟩
  ·
   have hi:0≤i∧i < 4:=⟨by omega,by omega⟩
   have hF2:=NB hI14 hi.1 (by omega) hI23
   refine W ?_
   refine⟨fun c3 c3p=>?_,fun c3 c3p=>?_⟩
   ·
    refine W ?_
    refine C7 (i+1) _ _ _ _ ?_ ?_ (.t4 2 7 0 5) (.refl _)
    · exact⟨by omega,by omega,((F6 hi.1 hi.2 hI23).trans (AN c3)).symm⟩
    · omega
   refine Ws 100082 ?_
   refine AY (.t (.t .h)) ?_
   refine AY (.t (.t .h)) ?_
   refine AY (.t (.t .h)) ?_
   refine Kk (Lm:= [_,_,_]) (fun(V3:AE) (ls3:Vector Ae 4)=>(AO V3 ls3 ev2)=(AO V2 ls2 ev2).set i ((AO V2 ls2 ev2).at_ i).BJ) (fun(V3:AE) (ls3:Vector Ae 4)=> []) (fun(V3:AE) (ls3:Vector Ae 4)=> [AJ.box b 95 (AE.enc V3),AJ.CI (BB 9 (AE.AP V3) ls3),AJ.own (AE.last V3) 100 16 (ev2.flatMap Ing.Event.enc)]) (.t5 0 2 4 5 7) J ?_ (fun V3 ls3 hC=>?_)
   ·
    refine Ws 8 ?_
    refine Cj (k:=i) hi.1 hi.2 (fun sv sl hsv hlv hln=>?_)
    refine W ?_
    refine Cm .n (N9 _ _ _ (by rw [← hlv];exact S5 hF2 hi.1 hi.2)) (fun v1 B hv=>?_) (fun _=>(fun w hS=>⟨(Kn.own .m1) w hS,(VI.own .m1) w hS⟩))
    rcases hv with ⟨y2,rfl,rfl⟩ | ⟨y3,y4,y5,y6,y7,rfl,y8,y9,rfl⟩
    ·
     refine W ?_
     refine Ar (.c .h (.c .h (.c .h (.c .h (.c .h .n))))) ?_
     refine MB hi.1 hi.2 (by rfl) (by rfl) (by rfl) ?_
     refine Bx _ _ ?_ (.t5 0 2 4 5 7) (.refl _)
     · exact B4 hi.1 hi.2 hsv hlv (f:=Ak.BJ) (PF hln.2.1 y2)
    refine W ?_
    refine Ar (.c .h (.c (.t .h) .n)) ?_
    refine gY y9 ?_
    refine Ar (.c (.t .h) (.c .h (.c .h (.c .h (.c .h .n))))) ?_
    refine MB hi.1 hi.2 (by rfl) (by rfl) (by rfl) ?_
    refine Bx _ _ ?_ (.t5 0 2 4 5 7) (.refl _)
    · exact B4 hi.1 hi.2 hsv hlv (f:=Ak.BJ) (Wq hln.2.1 y3 _)
   refine W ?_
   refine⟨fun c4 c4p=>?_,fun c4 c4p=>?_⟩
   ·
    refine W ?_
    refine Cm (.c .h (.c .h (.c .h .n))) (Ic _ V3 ls3 ev2 i _ _ hi (by rw [hC];exact hF2.Wp hi.1 hi.2) (by omega) (by omega)) (fun v13 B hv=>?_)
    obtain⟨y14,y15,y16,rfl,y17,rfl⟩:=hv
    refine W ?_
    refine C7 (i+1) _ _ _ _ ?_ ?_ (.t4 2 7 0 5) (.refl _)
    · exact⟨by omega,by omega,(((F6 hi.1 hi.2 hI23).trans ((AB c3).trans (AN (show _=true from(OV hi.1 hi.2 hC).symm.trans c4)))).trans (by rw [← hC,← y17])).symm⟩
    · omega
   refine W ?_
   refine C7 (i+1) _ _ _ _ ?_ ?_ (.t4 2 7 0 5) (.refl _)
   · exact⟨by omega,by omega,(((F6 hi.1 hi.2 hI23).trans ((AB c3).trans (AB (show _=false from(OV hi.1 hi.2 hC).symm.trans c4)))).trans (by rw [← hC])).symm⟩
   · omega
  obtain rfl:i=4:=by omega
  have hE:(AO V1 ls1 ev1).CH 4=((AO V2 ls2 ev2),c):=hI23.symm
  refine W ?_
  refine⟨fun c5 c5p=>?_,fun c5 c5p=>?_⟩
  ·
   refine W ?_
   intro w1 hS
   have hS:=(hS.perm (AK.perm (.c .h (.c .h (.c .h .n))))).AM
   refine⟨_,⟨V2,ls2,ev2,J,?ga1,J⟩,hS⟩
   case ga1=>exact(hI13.trans ((PE hI11 (by omega)).trans ((AN (show(!((AO V1 ls1 ev1).CH 4).2)=true by rw [hE];exact c5)).trans (by rw [hE])))).symm
  refine W ?_
  refine BR (k+1) _ _ _ ?_ ?_ (.t2 5 0) (.refl _)
  · exact⟨by omega,by omega,hI13.trans ((PE hI11 (by omega)).trans ((AB (show(!((AO V1 ls1 ev1).CH 4).2)=false by rw [hE];exact c5)).trans (by rw [hE]))),(NB hI14 (by omega) (by omega) hI23).mono (by omega) (by omega)⟩
  · omega
 refine W ?_
 intro w1 hS
 have hS:=(hS.perm (AK.perm (.c .h (.c .h (.c .h .n))))).AM
 refine⟨_,⟨V1,ls1,ev1,J,?ga2,J⟩,hS⟩
 case ga2=>exact(hI13.trans (by rw [show(5 - k).toNat=0 by omega];rfl)).symm
theorem Qd (b:Nat)(V:AE)(ls:Vector Ae 4)(ev:List Ing.Event)(d:Int)(n m:Nat)(hF:AG.Fit (AO V ls ev) n m)(hn:n≤500000)(hm:m≤500000):Cz Tryz.prog 34 #[.pointer (some ⟨b,0,none⟩), .int .i64 d] [AJ.box b 95 (AE.enc V),AJ.CI (BB 9 (AE.AP V) ls),AJ.own (AE.last V) 100 16 ((ev).flatMap Ing.Event.enc)] (fun w=>(GV 3 EH w∧3 ∉ BV [AJ.box b 95 (AE.enc V),AJ.CI (BB 9 (AE.AP V) ls),AJ.own (AE.last V) 100 16 ((ev).flatMap Ing.Event.enc)])∧(GV 1 AD.Be w∧1 ∉ BV [AJ.box b 95 (AE.enc V),AJ.CI (BB 9 (AE.AP V) ls),AJ.own (AE.last V) 100 16 ((ev).flatMap Ing.Event.enc)])∧(Eo 8 w∧8 ∉ BV [AJ.box b 95 (AE.enc V),AJ.CI (BB 9 (AE.AP V) ls),AJ.own (AE.last V) 100 16 ((ev).flatMap Ing.Event.enc)])∧(Eo 9 w∧9 ∉ BV [AJ.box b 95 (AE.enc V),AJ.CI (BB 9 (AE.AP V) ls),AJ.own (AE.last V) 100 16 ((ev).flatMap Ing.Event.enc)])) (fun v B=>∃ V' ls' ev',v = .tuple #[]∧AO V' ls' ev'=AG.P4 (AO V ls ev) d∧B = [AJ.box b 95 (AE.enc V'),AJ.CI (BB 9 (AE.AP V') ls'),AJ.own (AE.last V') 100 16 ((ev').flatMap Ing.Event.enc)]):=by
 intro w hS0 hH
 obtain⟨⟨gl0,gm0⟩,⟨gl1,gm1⟩,⟨gl2,gm2⟩,⟨gl3,gm3⟩⟩:=hH
 refine AR _ _ Tryz.func34 J J J (hS0) ?_
 refine W ?_
 refine Af (.t3 8 0 1) ?_
 refine AY (.t (.t .h)) ?_
 refine AY (.t (.t .h)) ?_
 refine AY (.t (.t .h)) ?_
 refine D2 (fun(i:Int) (V1:AE) (ls1:Vector Ae 4) (ev1:List Ing.Event)=>0≤i∧i≤4∧(AO V1 ls1 ev1)=AG.turns (AO V ls ev) i.toNat) (fun(i:Int) (V1:AE) (ls1:Vector Ae 4) (ev1:List Ing.Event)=>(4 - i).toNat) (fun(i:Int) (V1:AE) (ls1:Vector Ae 4) (ev1:List Ing.Event)=> [(8, .int .i64 i)]) (fun(i:Int) (V1:AE) (ls1:Vector Ae 4) (ev1:List Ing.Event)=> [AJ.box b 95 (AE.enc V1),AJ.CI (BB 9 (AE.AP V1) ls1),AJ.own (AE.last V1) 100 16 (ev1.flatMap Ing.Event.enc)]) (0) (V) (ls) (ev) ?_ J J (fun i V1 ls1 ev1 hI1=>?_)
 · exact⟨by omega,by omega,rfl⟩
 obtain⟨hI11,hI12,hI13⟩:=hI1
 refine W ?_
 refine⟨fun c1 c1p=>?_,fun c1 c1p=>?_⟩
 ·
  have hi:0≤i∧i < 4:=⟨by omega,by omega⟩
  refine W ?_
  refine Cm (.c .h (.c .h (.c .h .n))) (SY _ V1 ls1 ev1 i (n+44) (m+44) hi (by rw [hI13];exact(AG.HQ hF i.toNat (by omega)).mono (by omega) (by omega)) (by omega) (by omega)) (fun v1 B hv=>?_)
  obtain⟨y2,y3,y4,rfl,y5,rfl⟩:=hv
  refine W ?_
  refine BR (i+1) _ _ _ ?_ ?_ (.t3 8 0 1) (.refl _)
  · exact⟨by omega,by omega,y5.trans (by rw [hI13];exact(QJ hI11).symm)⟩
  · omega
 obtain rfl:i=4:=by omega
 have hF1:=AG.HQ hF 4 (Nat.le_refl 4)
 rw [show(4:Nat)=(4:Int).toNat from rfl,← hI13] at hF1
 have hrl:(AA.BX V1.w d).2.1.length≤78:=AA.NR hF1.Fp.Gb d
 have hrs:=AA.L1 (draw:=d) hF1.Fp
 have hF4:=((hF1.land hrs.1).Ft hrs.2).mono (Nat.add_le_add_left hrl _) (Nat.add_le_add_left hrl _)
 refine W ?_
 refine Cm .n (NT V1.w d hF1.Fp.Gb) (fun v6 B hv=>?_)
 obtain⟨y7,rfl,y8,rfl⟩:=hv
 refine W ?_
 intro b1
 refine Cm (.c (.t (.t .h)) (.c (.t (.t .h)) (.c (.t (.t .h)) (.c (.t .h) .n)))) (Ef _ { V1 with w:=(AA.BX V1.w d).1 } ls1 ev1 _ (AA.BX V1.w d).2.1 _ (by assumption) (Cx hF1) (by omega) (Nat.le_trans hF1.last (by omega)) (fun e he c _=>hrs.2 e he)) (fun v10 B hv=>?_)
 obtain⟨y11,y12,y13,rfl,y14,rfl⟩:=hv
 refine W ?_
 refine Cm (.c .h (.c .h (.c .h .n))) (Du _ y11 y12 y13 _ _ (by rw [y14];exact hF4) (by omega) (by omega)) (fun v15 B hv=>?_)
 obtain⟨y16,y17,y18,rfl,y19,rfl⟩:=hv
 refine W ?_
 intro w1 hS
 have hS:=(hS.perm (AK.perm (.c .h (.c .h (.c .h .n))))).AM
 refine⟨_,⟨y16,y17,y18,J,?ga1,J⟩,hS⟩
 case ga1=>rw [y19,y14,JS];show AG.BJ (AG.Ft { (AO V1 ls1 ev1) with w:=(AA.BX ((AO V1 ls1 ev1)).w d).1 } (AA.BX ((AO V1 ls1 ev1)).w d).2.1)=_;rw [hI13];rfl
theorem IP (opt:Int)(w:World):Ch Tryz.prog 117 #[.int .i64 opt] w fun v w'=>v = .tuple #[.int .i64 (AI.place opt).1, .bool (AI.place opt).2.1, .bool (AI.place opt).2.2]∧BF w w':=by
 refine Rb Tryz.func117 ?_
 refine W ?_
 refine⟨fun c1 c1p=>?_,fun c1 c1p=>?_⟩
 ·
  refine W ?_
  simp only [AI.place,c1,↓reduceIte,Bool.false_eq_true];rfl
 refine W ?_
 refine⟨fun c2 c2p=>?_,fun c2 c2p=>?_⟩
 ·
  refine W ?_
  simp only [AI.place,c1,c2,↓reduceIte,Bool.false_eq_true];rfl
 refine W ?_
 refine⟨fun c3 c3p=>?_,fun c3 c3p=>?_⟩
 ·
  refine W ?_
  simp only [AI.place,c1,c2,c3,↓reduceIte,Bool.false_eq_true];rfl
 refine W ?_
 simp only [AI.place,c1,c2,c3,↓reduceIte,Bool.false_eq_true];rfl
instance instP117:DI Tryz.prog 117 (type_of% @IP):=⟨@IP⟩
theorem JE (X:AI)(w:World):Ch Tryz.prog 69 #[.agg X.enc.toArray] w fun v w'=>v = .bool X.A5∧BF w w':=by
 refine Rb Tryz.func69 ?_
 refine W ?_
 intro b1
 refine Af (.t2 4 1) ?_
 refine A7 (fun(k:Int)=>0≤k∧k≤3∧X.A5=(A4 3 (fun i=>!X.O2 i) (3 - k).toNat && (!(!decide (X.us.at 2=0) || !decide (X.Dl.at 0=0)) && X.Ni))) (fun(k:Int)=>(3 - k).toNat) (fun(k:Int)=> [(4, .int .i64 k)]) (fun(k:Int)=> []) (0) ?_ J J (fun k hI1=>?_)
 · exact⟨Int.le_refl _,by omega,rfl⟩
 obtain⟨hI11,hI12,hI13⟩:=hI1
 refine W ?_
 refine⟨fun c1 c1p=>?_,fun c1 c1p=>?_⟩
 ·
  rw [Bh _ (by omega)] at hI13
  refine W ?_
  refine⟨fun c2 c2p=>?_,fun c2 c2p=>?_⟩
  ·
   refine W ?_
   refine congrArg Value.bool ?_;rw [hI13,AI.O2,c2];rfl
  refine W ?_
  refine Aw (k+1) ?_ ?_ (.t2 4 1) (.refl _)
  · exact⟨by omega,by omega,by rw [hI13,AI.O2,c2];rfl⟩
  · omega
 obtain rfl:k=3:=by omega
 refine W ?_
 refine⟨fun c3 c3p=>?_,fun c3 c3p=>?_⟩
 ·
  refine W ?_
  refine congrArg Value.bool ?_;rw [hI13,c3];rfl
 refine W ?_
 refine congrArg Value.bool ?_;rw [hI13,c3];rfl
instance instP69:DI Tryz.prog 69 (type_of% @JE):=⟨@JE⟩
theorem J3 (verb opt:Int)(h0:0≤verb∧verb≤255)(h1:0≤opt∧opt≤255)(w:World):Ch Tryz.prog 118 #[.int .i64 verb, .int .i64 opt] w fun v w'=>v=Ag (AI.YY verb opt)∧BF w w':=by
 refine Rb Tryz.func118 ?_
 refine W ?_
 refine Im (cs:=BO (n:=3) fQ (Vector.replicate 3 default)) J Tryz.underlying122 Qk VD (by decide) (by decide) (by kernel_rfl) (.cons (Ac.arr (n:=3) (i:=0) jM (by decide) (by decide)) J J J (.cons (Ac.arr (n:=3) (i:=1) jM (by decide) (by decide)) J J J (.cons (Ac.arr (n:=3) (i:=2) jM (by decide) (by decide)) J J J .nil))) ((IY jM).len _) (fun b1=>?_)
 refine Gt (HR (s:=AI.YY verb opt) (by rw [show(AI.YY verb opt).flatMap CE = [.int .u8 255, .int .u8 verb, .int .u8 opt] from by simp [AI.YY,CE,QL h0.1 h0.2,QL h1.1 h1.2]];rfl) Tryz.underlying122 Tryz.underlying9 Tryz.underlying5 J (Kn.own .m0)) ?_
 refine W ?_
 rfl
instance instP118:DI Tryz.prog 118 (type_of% @J3):=⟨@J3⟩
theorem IN (X:AI)(opt:Int)(w:World):Ch Tryz.prog 67 #[.agg X.enc.toArray, .int .i64 opt] w fun v w'=>v = .tuple #[.agg (X.Cu opt).1.enc.toArray,Ag (X.Cu opt).2.1, .int .i64 (X.Cu opt).2.2]∧BF w w':=by
 refine Rb Tryz.func67 ?_
 refine W ?_
 intro b1 b2
 refine⟨fun c1 c1p=>?_,fun c1 c1p=>?_⟩
 ·
  refine W ?_
  simp only [AI.Cu,c1,↓reduceIte,Bool.false_eq_true];rfl
 refine W ?_
 refine⟨fun c2 c2p=>?_,fun c2 c2p=>?_⟩
 ·
  refine W ?_
  simp only [AI.Cu,c1,c2,↓reduceIte,Bool.false_eq_true];rfl
 have hk:=AI.P3 (opt:=opt) (by simpa using c2)
 have hk1:0≤(AI.place opt).1∧(AI.place opt).1 < 3:=by rcases hk with ⟨_,e⟩ | ⟨_,e⟩<;>rw [e]<;>decide
 have ho:0≤opt∧opt≤255:=by rcases hk with ⟨e,_⟩ | ⟨e,_⟩<;>omega
 refine W ?_
 refine⟨fun c3 c3p=>?_,fun c3 c3p=>?_⟩
 ·
  refine W ?_
  simp only [AI.Cu,c1,c2,c3,↓reduceIte,Bool.false_eq_true];rfl
 refine W ?_
 simp only [AI.Cu,c1,c2,c3,↓reduceIte,Bool.false_eq_true];rfl
instance instP67:DI Tryz.prog 67 (type_of% @IN):=⟨@IN⟩
theorem J2 (X:AI)(opt:Int)(w:World):Ch Tryz.prog 68 #[.agg X.enc.toArray, .int .i64 opt] w fun v w'=>v = .tuple #[.agg (X.Ask opt).1.enc.toArray,Ag (X.Ask opt).2.1, .int .i64 (X.Ask opt).2.2]∧BF w w':=by
 refine Rb Tryz.func68 ?_
 refine W ?_
 intro b1 b2
 refine⟨fun c1 c1p=>?_,fun c1 c1p=>?_⟩
 ·
  refine W ?_
  simp only [AI.Ask,c1,↓reduceIte,Bool.false_eq_true];rfl
 refine W ?_
 refine⟨fun c2 c2p=>?_,fun c2 c2p=>?_⟩
 ·
  refine W ?_
  simp only [AI.Ask,c1,c2,↓reduceIte,Bool.false_eq_true];rfl
 have hk:=AI.L0 (opt:=opt) (by simpa using c2)
 have hk1:0≤(AI.place opt).1∧(AI.place opt).1 < 3:=by rcases hk with ⟨_,e⟩ | ⟨_,e⟩<;>rw [e]<;>decide
 have ho:0≤opt∧opt≤255:=by rcases hk with ⟨e,_⟩ | ⟨e,_⟩<;>omega
 refine W ?_
 refine⟨fun c3 c3p=>?_,fun c3 c3p=>?_⟩
 ·
  refine W ?_
  simp only [AI.Ask,c1,c2,c3,↓reduceIte,Bool.false_eq_true];rfl
 refine W ?_
 simp only [AI.Ask,c1,c2,c3,↓reduceIte,Bool.false_eq_true];rfl
instance instP68:DI Tryz.prog 68 (type_of% @J2):=⟨@J2⟩
theorem SW (b:Nat)(V:AE)(ls:Vector Ae 4)(ev:List Ing.Event)(k:Int)(n m:Nat)(hk:0≤k∧k < 4)(hF:AG.Fit (AO V ls ev) n m)(hn:n≤500000)(hm:m≤500000):Cz Tryz.prog 35 #[.pointer (some ⟨b,0,none⟩), .pointer (some ⟨b,165+k.toNat * 22,none⟩)] [AJ.box b 95 (AE.enc V),AJ.CI (BB 9 (AE.AP V) ls),AJ.own (AE.last V) 100 16 ((ev).flatMap Ing.Event.enc)] (fun w=>(GV 3 EH w∧3 ∉ BV [AJ.box b 95 (AE.enc V),AJ.CI (BB 9 (AE.AP V) ls),AJ.own (AE.last V) 100 16 ((ev).flatMap Ing.Event.enc)])∧(GV 1 AD.Be w∧1 ∉ BV [AJ.box b 95 (AE.enc V),AJ.CI (BB 9 (AE.AP V) ls),AJ.own (AE.last V) 100 16 ((ev).flatMap Ing.Event.enc)])∧(Eo 8 w∧8 ∉ BV [AJ.box b 95 (AE.enc V),AJ.CI (BB 9 (AE.AP V) ls),AJ.own (AE.last V) 100 16 ((ev).flatMap Ing.Event.enc)])∧(Eo 9 w∧9 ∉ BV [AJ.box b 95 (AE.enc V),AJ.CI (BB 9 (AE.AP V) ls),AJ.own (AE.last V) 100 16 ((ev).flatMap Ing.Event.enc)])) (fun v B=>∃ V' ls' ev',v = .tuple #[]∧AO V' ls' ev'=AG.QZ (AO V ls ev) k∧B = [AJ.box b 95 (AE.enc V'),AJ.CI (BB 9 (AE.AP V') ls'),AJ.own (AE.last V') 100 16 ((ev').flatMap Ing.Event.enc)]):=by
 intro w hS0 hH
 obtain⟨⟨gl0,gm0⟩,⟨gl1,gm1⟩,⟨gl2,gm2⟩,⟨gl3,gm3⟩⟩:=hH
 refine AR _ _ Tryz.func35 J J J (hS0) ?_
 refine Ws 0 ?_
 refine Cj (k:=k) hk.1 hk.2 (fun sv sl hsv hlv hln=>?_)
 refine W ?_
 refine Af (.t4 12 0 1 11) ?_
 refine AY (.t (.t (.t .h))) ?_
 refine Bo (fun(j:Int) (t:AI) (g:Page.Pg)=>0≤j∧j≤2∧t=(CJ j.toNat).1∧g=(CJ j.toNat).2) (fun(j:Int) (t:AI) (g:Page.Pg)=>(2 - j).toNat) (fun(j:Int) (t:AI) (g:Page.Pg)=> [(12, .int .i64 j)]) (fun(j:Int) (t:AI) (g:Page.Pg)=> [AJ.box b 95 (Fw V k (Df t g))]) (0) (default) (⟨0,false,[],false⟩) ?_ J J (fun j t g hI1=>?_)
 · exact⟨by omega,by omega,rfl,rfl⟩
 obtain⟨hI11,hI12,hI13,hI14⟩:=hI1
 refine W ?_
 refine⟨fun c1 c1p=>?_,fun c1 c1p=>?_⟩
 ·
  have ho1:=FJ t ((((Vector.replicate 2 (default:Int)).put ((0:Nat):Int) 3).put ((1:Nat):Int) 31).at j)
  have ho2:=Hw (t.Cu ((((Vector.replicate 2 (default:Int)).put ((0:Nat):Int) 3).put ((1:Nat):Int) 31).at j)).1 ((((Vector.replicate 2 (default:Int)).put ((0:Nat):Int) 3).put ((1:Nat):Int) 31).at j)
  try have:=FJ t (EG j)
  try have:=Hw (t.Cu (EG j)).1 (EG j)
  refine W ?_
  refine⟨fun c2 c2p=>?_,fun c2 c2p=>?_⟩
  ·
   refine W ?_
   refine Gt (LU J J (by first | omega | exact hk.1 | exact hk.2 | (have h1:=FJ t (EG j);have h2:=Hw (t.Cu (EG j)).1 (EG j);dsimp only [EG,Df] at *;(try simp only [List.length_nil]);omega))) ?_
   refine W ?_
   refine Cp (fun w hS=>E5 _ _ (by simp only [List.length_append];have h1:=FJ t (EG j);have h2:=Hw (t.Cu (EG j)).1 (EG j);dsimp only [EG,Df] at *;(try simp only [List.length_nil]);omega) w) ?_
   refine Ws 9 ?_
   refine CY (c':=Fw V k (Df (Ig t (EG j)) (Lx t g (EG j)))) (fun _=> .h) ?_ ?_
   · refine congrArg (Fw V k) ?_
     rw [Df,Lx,show Ig t (EG j)=_ from AN c2,show NO t (EG j)=_ from AN c2];rfl
   try have:=FJ t (EG j)
   try have:=Hw (t.Cu (EG j)).1 (EG j)
   refine W ?_
   refine Ap (j+1) _ _ ?_ ?_ (.t4 12 0 1 11) (.refl _)
   · exact⟨by omega,by omega,by rw [HL hI11,← hI13,← hI14],by rw [HL hI11,← hI13,← hI14]⟩
   · omega
  refine W ?_
  refine Gt (LU J J (by first | omega | exact hk.1 | exact hk.2 | (have h1:=FJ t (EG j);have h2:=Hw (t.Cu (EG j)).1 (EG j);dsimp only [EG,Df] at *;(try simp only [List.length_nil]);omega))) ?_
  refine W ?_
  refine Cp (fun w hS=>E5 _ _ (by simp only [List.length_append];have h1:=FJ t (EG j);have h2:=Hw (t.Cu (EG j)).1 (EG j);dsimp only [EG,Df] at *;(try simp only [List.length_nil]);omega) w) ?_
  refine Ws 9 ?_
  refine CY (c':=Fw V k (Df (Ig t (EG j)) (Lx t g (EG j)))) (fun _=> .h) ?_ ?_
  · refine congrArg (Fw V k) ?_
    rw [Df,Lx,show Ig t (EG j)=_ from AB c2,show NO t (EG j)=_ from AB c2];rfl
  try have:=FJ t (EG j)
  try have:=Hw (t.Cu (EG j)).1 (EG j)
  refine W ?_
  refine Ap (j+1) _ _ ?_ ?_ (.t4 12 0 1 11) (.refl _)
  · exact⟨by omega,by omega,by rw [HL hI11,← hI13,← hI14],by rw [HL hI11,← hI13,← hI14]⟩
  · omega
 obtain rfl:j=2:=by omega
 refine Ws 10 ?_
 refine CG AX 9 1 ?_
 refine CG AX 9 1 ?_
 refine CG AX 9 1 ?_
 refine By (.c (.t (.t .h)) (.c (.t .h) (.c .h (.c .h (.c (.t (.t (.t .h))) .n))))) ?_
 refine Ct hk.1 hk.2 (by rfl) (by rfl) (by rfl) ?_
 refine W ?_
 refine Cl (.c .h (.c .h (.c (.t (.t (.t .h))) .n))) (Eg _ (AE.AZ V k (Df t g)) (ls.put k ⟨[],[],[]⟩) ev k _ hk (by rw [Vector.Bi hk.1 hk.2];exact Nat.zero_le _)) (fun v4 B hv=>?_)
 obtain⟨y5,y6,y7,rfl,y8,rfl⟩:=hv
 refine W ?_
 refine Cm (.c .h (.c .h (.c .h .n))) (Du _ y5 y6 y7 (n+1) m (by rw [y8,(show AO (AE.AZ V k (Df t g)) (ls.put k ⟨[],[],[]⟩) ev=AG.set (AO V ls ev) k (Bz (Df t g) aF) from F3 V ls ev hk.1 hk.2 _ _)];exact(hF.comes hk.1 hk.2 t g).tell hk.1 hk.2 (show AG.CS.length≤_ by decide)) (by omega) (by omega)) (fun v9 B hv=>?_)
 obtain⟨y10,y11,y12,rfl,y13,rfl⟩:=hv
 refine W ?_
 intro w1 hS
 have hS:=(hS.perm (AK.perm (.c .h (.c .h (.c .h .n))))).AM
 refine⟨_,⟨y10,y11,y12,J,?ga1,J⟩,hS⟩
 case ga1=>rw [y13,y8,(show AO (AE.AZ V k (Df t g)) (ls.put k ⟨[],[],[]⟩) ev=AG.set (AO V ls ev) k (Bz (Df t g) aF) from F3 V ls ev hk.1 hk.2 _ _),hI13,hI14];unfold AG.QZ;rw [← Ly];rfl
end Go.Proofs.YtlmmdjaoikaceaaGreatDoor
