/- What the functions that the law HouseRuns reaches compute: walks, part 5. No condition. -/
import Derived.Test.YtlmmdjaoikaceaaGreatDoorCards
import Derived.Test.YtlmmdjaoikaceaaGreatDoorTie
import Derived.Deep.DeepHandedRow
import Derived.Test.YtlmmdjaoikaceaaGreatDoorRows
import Derived.Test.YtlmmdjaoikaceaaGreatDoorHouseRunsEc3
import Derived.Test.YtlmmdjaoikaceaaGreatDoorHouseRunsRa1
import Derived.Test.YtlmmdjaoikaceaaGreatDoorHouseRunsRb1
import Derived.Test.YtlmmdjaoikaceaaGreatDoorHouseRunsRc1
import Derived.Test.YtlmmdjaoikaceaaGreatDoorHouseRunsRd1
import Derived.Test.YtlmmdjaoikaceaaGreatDoorHouseRunsWalks
import Derived.Test.YtlmmdjaoikaceaaGreatDoorHouseRunsWalks2
import Derived.Test.YtlmmdjaoikaceaaGreatDoorHouseRunsWalks3
import Derived.Test.YtlmmdjaoikaceaaGreatDoorHouseRunsWalks4
set_option linter.unusedSimpArgs false
set_option linter.unusedVariables false
set_option maxRecDepth 100000
set_option maxHeartbeats 4000000
namespace Go.Proofs.YtlmmdjaoikaceaaGreatDoor
open Go Go.Ing Go.RowKit Go.ChangeShapes Go.WideShapes Go.ChangeAt
theorem IT (b:Nat)(V:AE)(ls:Vector Af 4)(ev:List Ing.Event)(k:Int)(n m:Nat)(hk:0≤k∧k < 4)(hF:AG.Fit (AO V ls ev) n m)(hn:n≤900000)(hm:m≤900000):Cw Tryz.prog 42 #[.pointer (some ⟨b,0,none⟩), .pointer (some ⟨b,165+k.toNat * 22,none⟩)] [AJ.box b 95 (AE.enc V),AJ.CQ (BF 9 (AE.AQ V) ls),AJ.own (AE.last V) 100 16 ((ev).flatMap Ing.Event.enc)] (fun w=>(GV 3 Dw w∧3 ∉ BP [AJ.box b 95 (AE.enc V),AJ.CQ (BF 9 (AE.AQ V) ls),AJ.own (AE.last V) 100 16 ((ev).flatMap Ing.Event.enc)])∧(GV 1 AD.Bf w∧1 ∉ BP [AJ.box b 95 (AE.enc V),AJ.CQ (BF 9 (AE.AQ V) ls),AJ.own (AE.last V) 100 16 ((ev).flatMap Ing.Event.enc)])∧(Ea 8 w∧8 ∉ BP [AJ.box b 95 (AE.enc V),AJ.CQ (BF 9 (AE.AQ V) ls),AJ.own (AE.last V) 100 16 ((ev).flatMap Ing.Event.enc)])∧(Ea 9 w∧9 ∉ BP [AJ.box b 95 (AE.enc V),AJ.CQ (BF 9 (AE.AQ V) ls),AJ.own (AE.last V) 100 16 ((ev).flatMap Ing.Event.enc)])) (fun v B=>∃ V' ls' ev',v = .tuple #[]∧AO V' ls' ev'=AG.leave (AO V ls ev) k∧B = [AJ.box b 95 (AE.enc V'),AJ.CQ (BF 9 (AE.AQ V') ls'),AJ.own (AE.last V') 100 16 ((ev').flatMap Ing.Event.enc)]):=by
 intro w hS0 hH
 obtain⟨⟨gl0,gm0⟩,⟨gl1,gm1⟩,⟨gl2,gm2⟩,⟨gl3,gm3⟩⟩:=hH
 have hbe:=W7 hF hk.1 hk.2
 refine AU _ _ Tryz.func42 J J J (hS0) ?_
 refine W ?_
 refine⟨fun c1 c1p=>?_,fun c1 c1p=>?_⟩
 ·
  have hdl:=AA.Ke V.w (V.AQ.at k).AV AG.DL
  have hds:=AA.Kg (b:=(V.AQ.at k).AV) (o:=AG.DL) hF.Fg AG.M5
  refine W ?_
  refine Et 9 14 J J (by kernel_rfl) ?_ ?_
  ·
   refine W ?_
   refine Cm .n (GG V.w (V.AQ.at k).AV AG.DL hF.Fg.GN (Nat.zero_le _) (Nat.zero_le _)) (fun v1 B hv=>?_)
   obtain⟨y2,rfl,y3,rfl⟩:=hv
   refine Ws 3 ?_
   intro b1
   refine B6 (.c (.t (.t .h)) (.c (.t (.t .h)) .n)) ?_
   refine C8 (k:=k) hk.1 hk.2 (fun sv sl hsv hlv hln=>?_)
   refine Ws 4 ?_
   refine CA Ac 9 1 ?_
   refine CA Ac 9 1 ?_
   refine CA Ac 9 1 ?_
   refine B6 (.c (.t (.t .h)) (.c (.t .h) (.c .h (.c (.t (.t (.t .h))) (.c (.t (.t (.t .h))) .n))))) ?_
   refine Cr hk.1 hk.2 (by rfl) (by rfl) (by rfl) ?_
   refine W ?_
   refine Cm (.c .h (.c .h (.c (.t (.t (.t (.t (.t .h))))) (.c (.t (.t (.t (.t .h)))) .n)))) (Ed _ (AE.AY { V with w:=(AA.Dk V.w (V.AQ.at k).AV AG.DL).1 } k default) (ls.put k ⟨[],[],[]⟩) ev _ (AA.Dk V.w (V.AQ.at k).AV AG.DL).2.1 n (by assumption) (Cx (((hF.land hds.1).free hk.1 hk.2) |> fun h=>by rw [← JJ,← FD hk.1 hk.2] at h;exact h)) (by omega) (Nat.le_trans hF.last (by omega)) (fun e he c _=>hds.2 e he)) (fun v8 B hv=>?_)
   obtain⟨y9,y10,y11,rfl,y12,rfl⟩:=hv
   refine Ws 5 ?_
   refine C8 (k:=k) hk.1 hk.2 (fun sv sl hsv hlv hln=>?_)
   refine W ?_
   intro w1 hS
   have hS:=hS.BX 9 1
   have hS:=hS.BX 9 1
   have hS:=hS.BX 9 1
   have hS:=(hS.perm (AK.perm (.c (.t (.t .h)) (.c (.t .h) (.c .h (.c (.t (.t (.t .h))) (.c (.t (.t (.t .h))) (.c (.t (.t (.t .h))) .n)))))))).AM
   have hS:=St.close' (s:=default) (qs:= []) (ws:= []) (ts:= []) hk.1 hk.2 rfl rfl rfl hS
   refine⟨_,⟨_,_,_,J,?ga1,J⟩,hS⟩
   case ga1=>exact N1 hk.1 hk.2 c1 y12
  ·
   refine W ?_
   intro b2
   refine Cm .n (GG V.w (V.AQ.at k).AV AG.DL hF.Fg.GN (Nat.zero_le _) (Nat.zero_le _)) (fun v16 B hv=>?_)
   obtain⟨y17,rfl,y18,rfl⟩:=hv
   refine Ws 3 ?_
   refine B6 (.c (.t (.t .h)) (.c (.t (.t .h)) .n)) ?_
   refine C8 (k:=k) hk.1 hk.2 (fun sv sl hsv hlv hln=>?_)
   refine Ws 4 ?_
   refine CA Ac 9 1 ?_
   refine CA Ac 9 1 ?_
   refine CA Ac 9 1 ?_
   refine B6 (.c (.t (.t .h)) (.c (.t .h) (.c .h (.c (.t (.t (.t .h))) (.c (.t (.t (.t .h))) .n))))) ?_
   refine Cr hk.1 hk.2 (by rfl) (by rfl) (by rfl) ?_
   refine W ?_
   refine Cm (.c .h (.c .h (.c (.t (.t (.t (.t (.t .h))))) (.c (.t (.t (.t .h))) .n)))) (Ed _ (AE.AY { V with w:=(AA.Dk V.w (V.AQ.at k).AV AG.DL).1 } k default) (ls.put k ⟨[],[],[]⟩) ev _ (AA.Dk V.w (V.AQ.at k).AV AG.DL).2.1 n (by assumption) (Cx (((hF.land hds.1).free hk.1 hk.2) |> fun h=>by rw [← JJ,← FD hk.1 hk.2] at h;exact h)) (by omega) (Nat.le_trans hF.last (by omega)) (fun e he c _=>hds.2 e he)) (fun v23 B hv=>?_)
   obtain⟨y24,y25,y26,rfl,y27,rfl⟩:=hv
   refine Ws 5 ?_
   refine C8 (k:=k) hk.1 hk.2 (fun sv sl hsv hlv hln=>?_)
   refine W ?_
   intro w1 hS
   have hS:=hS.BX 9 1
   have hS:=hS.BX 9 1
   have hS:=hS.BX 9 1
   have hS:=(hS.perm (AK.perm (.c (.t (.t .h)) (.c (.t .h) (.c .h (.c (.t (.t (.t .h))) (.c (.t (.t (.t .h))) (.c (.t (.t (.t .h))) .n)))))))).AM
   have hS:=St.close' (s:=default) (qs:= []) (ws:= []) (ts:= []) hk.1 hk.2 rfl rfl rfl hS
   refine⟨_,⟨_,_,_,J,?ga2,J⟩,hS⟩
   case ga2=>exact N1 hk.1 hk.2 c1 y27
 refine Ws 5 ?_
 refine C8 (k:=k) hk.1 hk.2 (fun sv sl hsv hlv hln=>?_)
 refine W ?_
 intro w1 hS
 have hS:=hS.BX 9 1
 have hS:=hS.BX 9 1
 have hS:=hS.BX 9 1
 have hS:=(hS.perm (AK.perm (.c (.t (.t .h)) (.c (.t .h) (.c .h (.c (.t (.t (.t .h))) (.c (.t (.t (.t .h))) (.c (.t (.t (.t .h))) .n)))))))).AM
 have hS:=St.close' (s:=default) (qs:= []) (ws:= []) (ts:= []) hk.1 hk.2 rfl rfl rfl hS
 refine⟨_,⟨_,_,_,J,?ga3,J⟩,hS⟩
 case ga3=>exact R9 hk.1 hk.2 c1
theorem P9 (b:Nat)(V:AE)(ls:Vector Af 4)(ev:List Ing.Event)(k:Int)(u:AL)(n m:Nat)(hk:0≤k∧k < 4)(hF:AG.Fit (AO V ls ev) n m)(hn:n≤900000)(hm:m≤900000)(hu:u.length≤1000):Cw Tryz.prog 112 #[.pointer (some ⟨b,0,none⟩), .pointer (some ⟨b,165+k.toNat * 22,none⟩),Ae u] [AJ.box b 95 (AE.enc V),AJ.CQ (BF 9 (AE.AQ V) ls),AJ.own (AE.last V) 100 16 ((ev).flatMap Ing.Event.enc)] (fun w=>(GV 3 Dw w∧3 ∉ BP [AJ.box b 95 (AE.enc V),AJ.CQ (BF 9 (AE.AQ V) ls),AJ.own (AE.last V) 100 16 ((ev).flatMap Ing.Event.enc)])∧(GV 1 AD.Bf w∧1 ∉ BP [AJ.box b 95 (AE.enc V),AJ.CQ (BF 9 (AE.AQ V) ls),AJ.own (AE.last V) 100 16 ((ev).flatMap Ing.Event.enc)])∧(Ea 8 w∧8 ∉ BP [AJ.box b 95 (AE.enc V),AJ.CQ (BF 9 (AE.AQ V) ls),AJ.own (AE.last V) 100 16 ((ev).flatMap Ing.Event.enc)])∧(Ea 9 w∧9 ∉ BP [AJ.box b 95 (AE.enc V),AJ.CQ (BF 9 (AE.AQ V) ls),AJ.own (AE.last V) 100 16 ((ev).flatMap Ing.Event.enc)])) (fun v B=>∃ V' ls' ev',v = .tuple #[]∧AO V' ls' ev'=AG.order (AO V ls ev) k u∧B = [AJ.box b 95 (AE.enc V'),AJ.CQ (BF 9 (AE.AQ V') ls'),AJ.own (AE.last V') 100 16 ((ev').flatMap Ing.Event.enc)]):=by
 intro w hS0 hH
 obtain⟨⟨gl0,gm0⟩,⟨gl1,gm1⟩,⟨gl2,gm2⟩,⟨gl3,gm3⟩⟩:=hH
 have hps:=Words.KL u
 have hdl:=AA.Ke V.w (V.AQ.at k).AV (Words.parse u).1
 have hds:=AA.Kg (b:=(V.AQ.at k).AV) (o:=(Words.parse u).1) hF.Fg (by have:=hps.2.2;omega)
 have htn:=Cx hF
 refine AU _ _ Tryz.func112 J J J (hS0) ?_
 refine W ?_
 intro b1
 refine⟨fun c1 c1p=>?_,fun c1 c1p=>?_⟩
 ·
  refine W ?_
  refine Cl (.c (.t .h) (.c (.t .h) (.c (.t .h) .n))) (Ee _ V ls ev k _ hk (Nat.le_trans (htn k hk.1 hk.2) (by omega))) (fun v1 B hv=>?_)
  obtain⟨y2,y3,y4,rfl,y5,rfl⟩:=hv
  refine W ?_
  intro w1 hS
  have hS:=(hS.perm (AK.perm (.c .h (.c .h (.c .h .n))))).AM
  refine⟨_,⟨y2,y3,y4,J,?ga1,J⟩,hS⟩
  case ga1=>exact y5.trans (if_pos c1).symm
 refine W ?_
 refine⟨fun c2 c2p=>?_,fun c2 c2p=>?_⟩
 ·
  refine W ?_
  refine Cm (.c (.t .h) (.c (.t .h) (.c (.t .h) .n))) (IT _ V ls ev k n m hk hF hn hm) (fun v6 B hv=>?_)
  obtain⟨y7,y8,y9,rfl,y10,rfl⟩:=hv
  refine W ?_
  intro w1 hS
  have hS:=(hS.perm (AK.perm (.c .h (.c .h (.c .h .n))))).AM
  refine⟨_,⟨y7,y8,y9,J,?ga2,J⟩,hS⟩
  case ga2=>exact y10.trans ((AB c1).trans (AN c2)).symm
 refine W ?_
 refine Et 9 14 J J (by kernel_rfl) ?_ ?_
 ·
  refine W ?_
  refine Cm .n (GG V.w (V.AQ.at k).AV (Words.parse u).1 hF.Fg.GN (by have:=hps.2.1;omega) (by have:=hps.1;omega)) (fun v11 B hv=>?_)
  obtain⟨y12,rfl,y13,rfl⟩:=hv
  refine W ?_
  intro b2
  refine Cm (.c (.t (.t (.t .h))) (.c (.t (.t (.t .h))) (.c (.t (.t (.t .h))) (.c (.t .h) .n)))) (Ed _ { V with w:=(AA.Dk V.w (V.AQ.at k).AV (Words.parse u).1).1 } ls ev _ (AA.Dk V.w (V.AQ.at k).AV (Words.parse u).1).2.1 n (by assumption) htn (by omega) (Nat.le_trans hF.last (by omega)) (fun e he c _=>hds.2 e he)) (fun v15 B hv=>?_)
  obtain⟨y16,y17,y18,rfl,y19,rfl⟩:=hv
  refine W ?_
  intro w1 hS
  have hS:=(hS.perm (AK.perm (.c .h (.c .h (.c .h .n))))).AM
  refine⟨_,⟨y16,y17,y18,J,?ga3,J⟩,hS⟩
  case ga3=>exact N4 hk.1 hk.2 c1 c2 y19
 ·
  refine W ?_
  intro b3
  refine Cm .n (GG V.w (V.AQ.at k).AV (Words.parse u).1 hF.Fg.GN (by have:=hps.2.1;omega) (by have:=hps.1;omega)) (fun v20 B hv=>?_)
  obtain⟨y21,rfl,y22,rfl⟩:=hv
  refine W ?_
  refine Cm (.c (.t (.t (.t .h))) (.c (.t (.t (.t .h))) (.c (.t (.t (.t .h))) (.c .h .n)))) (Ed _ { V with w:=(AA.Dk V.w (V.AQ.at k).AV (Words.parse u).1).1 } ls ev _ (AA.Dk V.w (V.AQ.at k).AV (Words.parse u).1).2.1 n (by assumption) htn (by omega) (Nat.le_trans hF.last (by omega)) (fun e he c _=>hds.2 e he)) (fun v24 B hv=>?_)
  obtain⟨y25,y26,y27,rfl,y28,rfl⟩:=hv
  refine W ?_
  intro w1 hS
  have hS:=(hS.perm (AK.perm (.c .h (.c .h (.c .h .n))))).AM
  refine⟨_,⟨y25,y26,y27,J,?ga4,J⟩,hS⟩
  case ga4=>exact N4 hk.1 hk.2 c1 c2 y28
theorem R5 (b:Nat)(V:AE)(ls:Vector Af 4)(ev:List Ing.Event)(k:Int)(n m:Nat)(hk:0≤k∧k < 4)(hF:AG.Fit (AO V ls ev) n m)(hn:n≤900000)(hm:m≤900000):Cw Tryz.prog 64 #[.pointer (some ⟨b,0,none⟩), .pointer (some ⟨b,165+k.toNat * 22,none⟩)] [AJ.box b 95 (AE.enc V),AJ.CQ (BF 9 (AE.AQ V) ls),AJ.own (AE.last V) 100 16 ((ev).flatMap Ing.Event.enc)] (fun w=>(GV 3 Dw w∧3 ∉ BP [AJ.box b 95 (AE.enc V),AJ.CQ (BF 9 (AE.AQ V) ls),AJ.own (AE.last V) 100 16 ((ev).flatMap Ing.Event.enc)])∧(GV 1 AD.Bf w∧1 ∉ BP [AJ.box b 95 (AE.enc V),AJ.CQ (BF 9 (AE.AQ V) ls),AJ.own (AE.last V) 100 16 ((ev).flatMap Ing.Event.enc)])∧(Ea 8 w∧8 ∉ BP [AJ.box b 95 (AE.enc V),AJ.CQ (BF 9 (AE.AQ V) ls),AJ.own (AE.last V) 100 16 ((ev).flatMap Ing.Event.enc)])∧(Ea 9 w∧9 ∉ BP [AJ.box b 95 (AE.enc V),AJ.CQ (BF 9 (AE.AQ V) ls),AJ.own (AE.last V) 100 16 ((ev).flatMap Ing.Event.enc)])) (fun v B=>∃ V' ls' ev',v = .tuple #[]∧AO V' ls' ev'=AG.Dz (AO V ls ev) k∧B = [AJ.box b 95 (AE.enc V'),AJ.CQ (BF 9 (AE.AQ V') ls'),AJ.own (AE.last V') 100 16 ((ev').flatMap Ing.Event.enc)]):=by
 intro w hS0 hH
 obtain⟨⟨gl0,gm0⟩,⟨gl1,gm1⟩,⟨gl2,gm2⟩,⟨gl3,gm3⟩⟩:=hH
 refine AU _ _ Tryz.func64 J J J (hS0) ?_
 refine W ?_
 refine⟨fun c1 c1p=>?_,fun c1 c1p=>?_⟩
 ·
  refine W ?_
  intro w1 hS
  have hS:=(hS.perm (AK.perm (.c .h (.c .h (.c .h .n))))).AM
  exact⟨_,⟨V,ls,ev,J,RC hk.1 hk.2 c1,J⟩,hS⟩
 refine Ws 3 ?_
 refine C8 (k:=k) hk.1 hk.2 (fun sv sl hsv hlv hln=>?_)
 refine W ?_
 refine Cm .n (PG _ _ (by have h:=(QO hF hk.1 hk.2).1;rw [hlv] at h;omega)) (fun v1 B hv=>?_) (fun _=>(fun w hS=>⟨(Kn.own .m0) w hS,(U1.own .m0) w hS⟩))
 rcases hv with ⟨y2,rfl,rfl⟩ | ⟨y3,y4,y5,y6,rfl,y7,rfl⟩
 ·
  refine W ?_
  intro w1 hS
  have hS:=(hS.perm (AK.perm (.c .h (.c .h (.c .h (.c .h (.c .h (.c .h .n)))))))).AM
  have hS:=hS.close' hk.1 hk.2 (by rfl) (by rfl) (by rfl)
  refine⟨_,⟨V.AY k sv,ls.put k ⟨sl.queue,sl.wait,sl.told⟩,ev,J,?ga2,J⟩,hS⟩
  case ga2=>exact RD hk.1 hk.2 hsv hlv y2 c1
 refine Ws 8 ?_
 refine B6 (.c .h (.c (.t .h) (.c (.t .h) (.c (.t .h) (.c (.t .h) .n))))) ?_
 refine Cr hk.1 hk.2 (by rfl) (by rfl) (by rfl) ?_
 refine W ?_
 refine⟨fun c2 c2p=>?_,fun c2 c2p=>?_⟩
 ·
  refine W ?_
  intro w1 hS
  have hS:=(hS.perm (AK.perm (.c .h (.c .h (.c (.t .h) .n))))).AM
  exact⟨_,⟨(AE.AY V k { sv with Ay:=⟨sv.Ay.now,sv.Ay.long,sv.Ay.ret,y6⟩,out:=⟨sv.out.wait,0,false,sv.out.ring,sv.out.cut⟩ }),(ls.put k ⟨y4,sl.wait,sl.told⟩),ev,J,(CW (ev:=ev) hk.1 hk.2 hsv hlv y5 c1 y6).1.trans ((CW (ev:=ev) hk.1 hk.2 hsv hlv y5 c1 y6).2.2.trans (if_pos c2)).symm,J⟩,hS⟩
 refine W ?_
 refine⟨fun c3 c3p=>?_,fun c3 c3p=>?_⟩
 ·
  try have:=(hF.queue k hk.1 hk.2).2 y3 (by rw [(CW (ev:=ev) hk.1 hk.2 hsv hlv y5 c1 y6).2.1];exact List.mem_cons_self ..)
  refine W ?_
  refine Cm (.c .h (.c .h (.c (.t .h) .n))) (R4 _ (AE.AY V k { sv with Ay:=⟨sv.Ay.now,sv.Ay.long,sv.Ay.ret,y6⟩,out:=⟨sv.out.wait,0,false,sv.out.ring,sv.out.cut⟩ }) (ls.put k ⟨y4,sl.wait,sl.told⟩) ev k _ n m hk (by rw [(CW (ev:=ev) hk.1 hk.2 hsv hlv y5 c1 y6).1];exact hF.Er hk.1 hk.2 (CW (ev:=ev) hk.1 hk.2 hsv hlv y5 c1 y6).2.1) hn hm (by have h:y3.length≤1000:=(by have h:=(hF.queue k hk.1 hk.2).2 y3 (by rw [(CW (ev:=ev) hk.1 hk.2 hsv hlv y5 c1 y6).2.1];exact List.mem_cons_self ..);omega);have h1:=Words.Ma 32 (Words.Dy 32 y3);have h2:=Words.OC 32 y3;omega)) (fun v9 B hv=>?_)
  obtain⟨y10,y11,y12,rfl,y13,rfl⟩:=hv
  refine W ?_
  intro w1 hS
  have hS:=(hS.perm (AK.perm (.c .h (.c .h (.c .h .n))))).AM
  have c9:decide (sv.state=1)=true:=by
    have h:=c3
    rw [show(AE.AQ (AE.AY V k { sv with Ay:=⟨sv.Ay.now,sv.Ay.long,sv.Ay.ret,y6⟩,out:=⟨sv.out.wait,0,false,sv.out.ring,sv.out.cut⟩ })).at k=_ from Vector.Bk hk.1 hk.2] at h
    exact h
  refine⟨_,⟨y10,y11,y12,J,?ga4,J⟩,hS⟩
  case ga4=>exact y13.trans ((congrArg (fun X=>AG.named X k _) (CW (ev:=ev) hk.1 hk.2 hsv hlv y5 c1 y6).1).trans ((CW (ev:=ev) hk.1 hk.2 hsv hlv y5 c1 y6).2.2.trans ((AB c2).trans (AN c9))).symm)
 refine W ?_
 refine Cm (.c .h (.c .h (.c (.t .h) .n))) (P9 _ (AE.AY V k { sv with Ay:=⟨sv.Ay.now,sv.Ay.long,sv.Ay.ret,y6⟩,out:=⟨sv.out.wait,0,false,sv.out.ring,sv.out.cut⟩ }) (ls.put k ⟨y4,sl.wait,sl.told⟩) ev k _ n m hk (by rw [(CW (ev:=ev) hk.1 hk.2 hsv hlv y5 c1 y6).1];exact hF.Er hk.1 hk.2 (CW (ev:=ev) hk.1 hk.2 hsv hlv y5 c1 y6).2.1) hn hm (by have h:=(hF.queue k hk.1 hk.2).2 y3 (by rw [(CW (ev:=ev) hk.1 hk.2 hsv hlv y5 c1 y6).2.1];exact List.mem_cons_self ..);omega)) (fun v14 B hv=>?_)
 obtain⟨y15,y16,y17,rfl,y18,rfl⟩:=hv
 refine W ?_
 intro w1 hS
 have hS:=(hS.perm (AK.perm (.c .h (.c .h (.c .h .n))))).AM
 have c9:decide (sv.state=1)=false:=by
   have h:=c3
   rw [show(AE.AQ (AE.AY V k { sv with Ay:=⟨sv.Ay.now,sv.Ay.long,sv.Ay.ret,y6⟩,out:=⟨sv.out.wait,0,false,sv.out.ring,sv.out.cut⟩ })).at k=_ from Vector.Bk hk.1 hk.2] at h
   exact h
 refine⟨_,⟨y15,y16,y17,J,?ga5,J⟩,hS⟩
 case ga5=>exact y18.trans ((congrArg (fun X=>AG.order X k _) (CW (ev:=ev) hk.1 hk.2 hsv hlv y5 c1 y6).1).trans ((CW (ev:=ev) hk.1 hk.2 hsv hlv y5 c1 y6).2.2.trans ((AB c2).trans (AB c9))).symm)
theorem Pb (X:AD)(b:Int)(hF:(AA.Ec X b).Fit):Cw Tryz.prog 115 #[.agg X.enc.toArray, .int .i64 b] [] (fun w=>(GV 1 AD.Bf w∧1 ∉ BP [])) (fun v B=>∃ h:Hd,v = .tuple #[.agg ((AA.FO X b).w.enc).toArray,h.val]∧h.len=(AA.FO X b).out.length∧B = [AJ.own h 100 16 ((AA.FO X b).out.flatMap Ing.Event.enc)]):=by
 intro w hS0 hH
 obtain⟨gl0,gm0⟩:=hH
 have hb:0≤b∧b < 6:=hF.b
 refine AU _ _ Tryz.func115 J J J (hS0) ?_
 refine W ?_
 intro b1 b2 b3
 refine Cn Ing.Event.enc 100 16 ?_
 refine W ?_
 refine Cl (.c (.t .h) (.c .h .n)) (GF _ (AA.Ec X b) _ 15 J hb (Nat.zero_le _)) (fun v2 B hv=>?_)
 obtain⟨y3,rfl,y4,rfl⟩:=hv
 refine W ?_
 refine Cl (.c .h .n) (MR _ ((AA.Ec X b).kind 15) _ (hF.FW J J)) (fun v5 B hv=>?_)
 obtain⟨y6,y7,rfl,rfl⟩:=hv
 refine W ?_
 refine⟨fun c1 c1p=>?_,fun c1 c1p=>?_⟩
 ·
  refine W ?_
  intro w1 hS
  have hS:=(hS.perm (AK.perm (.c (.t .h) .n))).AM
  have hq:AA.FO X b=_:=AN c1
  rw [AA.Rp y7] at hq
  refine⟨_,⟨y3,?g9v,?g9l,?g9B⟩,hS⟩
  case g9v=>rw [hq];rfl
  case g9l=>rw [hq];exact y4
  case g9B=>rw [hq]
 refine Ws 10 ?_
 refine CZ (fun _=> .h) (congrArg (fun q=>AZ.enc ⟨q,b,y3⟩) (AA.W0 y6 hb)) ?_
 have hT2:=AA.Rr y7
 have hf2:=AA.Od hF
 rw [hT2] at hf2
 refine W ?_
 refine Cl (.c .h (.c .h .n)) (GF _ (⟨y6.Bc b { y6.AF.at b with room:=0,AW:=10 },b,((AA.Ec X b).kind 15).out⟩:AA) _ 17 y4 hb (by decide:(0:Nat)+1≤100000)) (fun v8 B hv=>?_)
 obtain⟨y9,rfl,y10,rfl⟩:=hv
 refine W ?_
 refine Cm (.c .h (.c .h .n)) (HE _ ((⟨y6.Bc b { y6.AF.at b with room:=0,AW:=10 },b,((AA.Ec X b).kind 15).out⟩:AA).kind 17) _ y10 hb hf2.br (by decide:(0:Nat)+1+1≤90000)) (fun v11 B hv=>?_)
 obtain⟨y12,rfl,y13,rfl⟩:=hv
 refine W ?_
 intro w1 hS
 have hS:=(hS.perm (AK.perm (.c (.t .h) .n))).AM
 have hq:AA.FO X b=_:=AB c1
 rw [hT2] at hq
 refine⟨_,⟨y12,?g9v,?g9l,?g9B⟩,hS⟩
 case g9v=>rw [hq];rfl
 case g9l=>rw [hq];exact y13
 case g9B=>rw [hq]
theorem M9 (X:AD)(d:Int)(hw:X.Co):Cw Tryz.prog 65 #[.agg X.enc.toArray, .int .i64 d] [] (fun w=>(GV 1 AD.Bf w∧1 ∉ BP [])) (fun v B=>∃ h:Hd,v = .tuple #[.agg ((AA.BW X d).1.enc).toArray,h.val, .int .i64 (AA.BW X d).2.2]∧h.len=(AA.BW X d).2.1.length∧B = [AJ.own h 100 16 ((AA.BW X d).2.1.flatMap Ing.Event.enc)]):=by
 intro w hS0 hH
 obtain⟨gl0,gm0⟩:=hH
 have hm:=Cj d
 refine AU _ _ Tryz.func65 J J J (hS0) ?_
 refine W ?_
 intro b1 b2
 refine⟨fun c1 c1p=>?_,fun c1 c1p=>?_⟩
 ·
  refine W ?_
  intro w1 hS
  have hS:=hS.BX 100 16
  have hS:=(hS.perm (AK.perm (.c .h .n))).AM
  have hq:AA.BW X d=_:=AN c1
  refine⟨_,⟨⟨none,0,0⟩,?g9v,?g9l,?g9B⟩,hS⟩
  case g9v=>rw [hq];rfl
  case g9l=>rw [hq];rfl
  case g9B=>rw [hq];rfl
 refine W ?_
 refine Ag (.t5 7 18 1 2 4) ?_
 refine CA Ing.Event.enc 100 16 ?_
 refine AX (.t (.t .h)) ?_
 refine AX (.t .h) ?_
 refine Bq (fun(k:Int) (s:AD × List Ing.Event) (h:Hd)=>0≤k∧k≤6∧s=AA.DF X d k.toNat∧s.1.A3=true∧s.1.Co∧(s.2.length:Int)≤13 * k∧h.len=s.2.length) (fun(k:Int) (s:AD × List Ing.Event) (h:Hd)=>(6 - k).toNat) (fun(k:Int) (s:AD × List Ing.Event) (h:Hd)=> [(7,h.val),(18, .int .i64 k)]) (fun(k:Int) (s:AD × List Ing.Event) (h:Hd)=> [AJ.own h 100 16 (s.2.flatMap Ing.Event.enc),AJ.box b1 52 (AD.enc s.1)]) (0) ((X,[])) (_) ?_ J J (fun k s h hI1=>?_)
 · exact⟨by omega,by omega,rfl,by simpa using c1,hw,by simp,rfl⟩
 obtain⟨hI11,hI12,hI13,hI14,hI15,hI16,hI17⟩:=hI1
 refine W ?_
 refine⟨fun c2 c2p=>?_,fun c2 c2p=>?_⟩
 ·
  have hbe:=AA.GA hI14 hI11 (show k < 6 by omega)
  have hfo:=hbe.A1
  try have:=Cj (d.tmod 3+3+k)
  refine W ?_
  intro b3
  refine⟨fun c3 c3p=>?_,fun c3 c3p=>?_⟩
  ·
   try have:=Cj (d.tmod 3+3+k)
   refine W ?_
   refine Ap (k+1) (s) _ ?_ ?_ (.t5 7 18 1 2 4) (.cons _ (.refl _))
   · have hrs:AA.DU d k s=_:=(AN c3)
     have hrg:=AA.C5 (draw:=d) hI14 hI15 hI11 (by omega)
     rw [hrs] at hrg
     exact⟨by omega,by omega,by rw [AA.DM hI11,← hI13,hrs],hrg.1,hrg.2.1,(by have:=hrg.2.2;omega),(by first | assumption | (have hso:(AA.Aq s.1 k ((s.1.AF.at k).A1 - 1) (AA.hit d k)).out.length=1:=rfl;(try dsimp only at *);simp only [List.length_append] at *;omega))⟩
   · omega
  have hf0:0≤((s.1.AF.at k).A1 - 1)∧((s.1.AF.at k).A1 - 1) < 6:=by omega
  have hbf:=(AA.GA hI14 hf0.1 hf0.2).AW
  try have:=Cj (d.tmod 3+3+k)
  refine W ?_
  refine⟨fun c4 c4p=>?_,fun c4 c4p=>?_⟩
  ·
   try have:=Cj (d.tmod 3+3+k)
   refine W ?_
   refine Ap (k+1) ((s.1.Bc k { s.1.AF.at k with A1:=0 },s.2)) _ ?_ ?_ (.t5 7 18 1 2 4) (.cons _ (.refl _))
   · have hrs:AA.DU d k s=_:=((AB c3).trans (AN c4))
     have hrg:=AA.C5 (draw:=d) hI14 hI15 hI11 (by omega)
     rw [hrs] at hrg
     exact⟨by omega,by omega,by rw [AA.DM hI11,← hI13,hrs],hrg.1,hrg.2.1,(by have:=hrg.2.2;omega),(by first | assumption | (have hso:(AA.Aq s.1 k ((s.1.AF.at k).A1 - 1) (AA.hit d k)).out.length=1:=rfl;(try dsimp only at *);simp only [List.length_append] at *;omega))⟩
   · omega
  have hsf:=AA.Ja (b:=k) (n:=AA.hit d k) hI14 hI15 (A1:=((s.1.AF.at k).A1 - 1)) hf0.1 hf0.2 c4p.1
  have hht:=AA.MC (draw:=d) hI11
  try have:=Cj (d.tmod 3+3+k)
  refine W ?_
  intro b4
  refine Cn Ing.Event.enc 100 16 ?_
  refine W ?_
  refine Cl (.c (.t .h) (.c .h .n)) (Bt _ ⟨s.1,k,[]⟩ _ { AA.Dn 14 with other:=((s.1.AF.at k).A1 - 1),n:=AA.hit d k } J (show 0≤k∧k < 6 by omega) (show((s.1.AF.at k).A1 - 1) < 6 by omega) (Nat.zero_le _)) (fun v3 B hv=>?_)
  obtain⟨y4,rfl,y5,rfl⟩:=hv
  try have:=Cj (d.tmod 3+3+k)
  refine Ws 16 ?_
  have hl1:y4.len=1:=y5
  try have:=Cj (d.tmod 3+3+k)
  refine W ?_
  intro h6 h6l h6z
  refine⟨fun c5 c5p=>?_,fun c5 c5p=>?_⟩
  ·
   refine W ?_
   refine Cm .n (Pb (AA.Aq s.1 k ((s.1.AF.at k).A1 - 1) (AA.hit d k)).w ((s.1.AF.at k).A1 - 1) hsf) (fun v7 B hv=>?_)
   obtain⟨y8,rfl,y9,rfl⟩:=hv
   refine Ws 21 ?_
   have hl2:y8.len≤12:=by rw [y9];exact(AA.QY hsf).2.2
   try have:=Cj (d.tmod 3+3+k)
   refine W ?_
   intro h11 h11l h11z
   refine Ap (k+1) (((AA.FO (AA.Aq s.1 k ((s.1.AF.at k).A1 - 1) (AA.hit d k)).w ((s.1.AF.at k).A1 - 1)).w,(s.2++(AA.Aq s.1 k ((s.1.AF.at k).A1 - 1) (AA.hit d k)).out)++(AA.FO (AA.Aq s.1 k ((s.1.AF.at k).A1 - 1) (AA.hit d k)).w ((s.1.AF.at k).A1 - 1)).out)) _ ?_ ?_ (.t5 7 18 1 2 4) (.cons _ (.cons _ (.cons _ (.cons _ (.refl _)))))
   · have hrs:AA.DU d k s=_:=((AB c3).trans ((AB c4).trans (AN c5)))
     have hrg:=AA.C5 (draw:=d) hI14 hI15 hI11 (by omega)
     rw [hrs] at hrg
     exact⟨by omega,by omega,by rw [AA.DM hI11,← hI13,hrs],hrg.1,hrg.2.1,(by have:=hrg.2.2;omega),(by first | assumption | (have hso:(AA.Aq s.1 k ((s.1.AF.at k).A1 - 1) (AA.hit d k)).out.length=1:=rfl;(try dsimp only at *);simp only [List.length_append] at *;omega))⟩
   · omega
  try have:=Cj (d.tmod 3+3+k)
  refine W ?_
  refine Ap (k+1) (((AA.Aq s.1 k ((s.1.AF.at k).A1 - 1) (AA.hit d k)).w,s.2++(AA.Aq s.1 k ((s.1.AF.at k).A1 - 1) (AA.hit d k)).out)) _ ?_ ?_ (.t5 7 18 1 2 4) (.cons _ (.cons _ (.cons _ (.refl _))))
  · have hrs:AA.DU d k s=_:=((AB c3).trans ((AB c4).trans (AB c5)))
    have hrg:=AA.C5 (draw:=d) hI14 hI15 hI11 (by omega)
    rw [hrs] at hrg
    exact⟨by omega,by omega,by rw [AA.DM hI11,← hI13,hrs],hrg.1,hrg.2.1,(by have:=hrg.2.2;omega),(by first | assumption | (have hso:(AA.Aq s.1 k ((s.1.AF.at k).A1 - 1) (AA.hit d k)).out.length=1:=rfl;(try dsimp only at *);simp only [List.length_append] at *;omega))⟩
  · omega
 obtain rfl:k=6:=by omega
 refine W ?_
 intro w1 hS
 have hS:=(hS.perm (AK.perm (.c .h .n))).AM
 have hq:AA.BW X d=((AA.DF X d 6).1,(AA.DF X d 6).2,0):=AB c1
 have hs6:s=AA.DF X d 6:=hI13
 rw [← hs6] at hq
 refine⟨_,⟨h,?g9v,?g9l,?g9B⟩,hS⟩
 case g9v=>rw [hq];(try rfl)
 case g9l=>rw [hq];exact hI17
 case g9B=>rw [hq];(try rfl)
theorem E1 (p:A7)(s:AL)(hs:s.length≤9000000000000000000)(w:World):Ck Tryz.prog 37 #[.agg p.enc.toArray,Ae s] w fun v w'=>v = .tuple #[.agg (A7.enc ⟨p.wait,(Page.send p s).1.shown,(Page.send p s).1.BS,(Page.send p s).1.ring,(Page.send p s).1.cut⟩).toArray, .int .i64 (Page.send p s).2]∧BG w w':=by
 refine Rb Tryz.func37 ?_
 refine W ?_
 intro b1 b2
 refine⟨fun c1 c1p=>?_,fun c1 c1p=>?_⟩
 ·
  refine W ?_
  simp only [Page.send,Page.put,Page.of,c1,↓reduceIte,Bool.false_eq_true];rfl
 have hg:=(Page.ES p).1 (by simpa using c1)
 refine W ?_
 refine⟨fun c2 c2p=>?_,fun c2 c2p=>?_⟩
 ·
  refine W ?_
  rw [show Page.send p s=(Page.of p,6) from by simp only [Page.send,c1,c2,↓reduceIte,Bool.false_eq_true]];rfl
 refine W ?_
 refine⟨fun c3 c3p=>?_,fun c3 c3p=>?_⟩
 ·
  refine W ?_
  simp only [Page.send,Page.put,Page.of,c1,c2,c3,↓reduceIte,Bool.false_eq_true];rfl
 refine W ?_
 simp only [Page.send,Page.put,Page.of,c1,c2,c3,↓reduceIte,Bool.false_eq_true];rfl
instance:DY Tryz.prog 37 (type_of% @E1):=⟨@E1⟩
theorem Ho (b:Nat)(m:Int)(h0:0 < m)(h1:m≤281474976710656):Gv Tryz.prog 229 #[.pointer (some ⟨b,0,none⟩), .int .i64 m] [AJ.box b 136 (D2.enc ⟨some ⟨b,0,none⟩,⟨none,0,0⟩⟩)] (fun v B=>∃ h',v = .tuple #[]∧h'.Z∧h'.len=0∧B = [AJ.box b 136 (D2.enc ⟨some ⟨b,0,none⟩,h'⟩),AJ.own h' 5 1 (([]:AL).flatMap CH)]):=by
 intro w hS0
 refine AU _ _ Tryz.func229 J J J (hS0) ?_
 refine Yp ?_
 refine WI (N:=16) [0,1,3,7,15,31,0,127,255,0,512,1536,3584,7680,16383,32767] mix (by kernel_rfl) J ?_
 refine Pf 0 J (JH J) (Pf 1 J (gg J) (Pf 2 J (gf MB J) (Pf 3 J (Lz J SY .m0 D2.l1 J J) (Pf 4 J (Ly J Tryz.underlying122 J) ?_))))
 refine Pf 5 J (Y3 J J (IntWalk.i64_in _ (by first | omega | (dsimp only;omega)))) ?_
 refine Pf 6 J (JH J) ?_
 refine Pf 7 J (Yw J J (IntWalk.i64_in _ (by first | omega | (dsimp only;omega)))) ?_
 refine Pf 9 J (JH J) (Pf 10 J (gg J) (Pf 11 J (gf MB J) (Pf 12 J (Lz J SY .m0 D2.l1 J J) (Pf 13 J (JG J Tryz.underlying122 J) ?_))))
 refine LI 8 J (by kernel_rfl) ?_
 refine Sf (ps:=#[3]) J Tryz.func238 (by kernel_rfl) (by kernel_rfl) (by kernel_rfl) (by kernel_rfl) Tryz.underlying122 QI J (by first | omega | (dsimp only;omega)) (by first | omega | (dsimp only;omega)) (fun b1 b1c b1x b1l b1k=>?_)
 refine RO J ⟨?_,?_⟩
 · exact(Po J (JG J Tryz.underlying122 J) J J (Po J (Lz J SY .m1 D2.l1 J J) J J (Po J (gf MB J) J J (Po J (gg J) J J (Po J (JH J) J J (Pk (Pk (Pk (Pk (Pk (Pk (Pk (Pk OQ)))))))))))))
 refine LI 14 J (by kernel_rfl) ?_
 refine QP Rv J Tryz.underlying122 QI J J (by first | omega | (dsimp only;omega)) (by first | omega | (dsimp only;omega)) (fun _=> .h) ?_
 refine RO J ⟨?_,?_⟩
 · exact(Pk (Pk (Pk (Pk (Pk (Pk (Pk (Pk (Pk (Pk (Pk (Pk (Pk OQ)))))))))))))
 refine Pf 15 J (Kc J) ?_
 refine Sw (by kernel_rfl) ?_
 refine Yk (.t2 0 4) ?_
 refine RR (Gs (Gm J (Gm J (Gt (gg J) (Gt (gf MB J) (Gt (Lz J SY .m1 D2.l1 J J) (Gt (Yy J Tryz.underlying122 QI J J) ?_)))))))
 refine Gn (.t2 0 4) (J0 (Gm J (Gm J (Gt (gg J) (Gt (gf MB J) ?_)))))
 refine EJ (Su D2.l1 J J J da J (.t .h)) ?_
 refine OG ?_
 refine Yj J .n ?_
 intro w1 hS
 have hS:=(hS.perm (AK.perm (.c (.t .h) (.c .h .n)))).AM
 exact⟨_,⟨_,J,⟨by intro a h;cases h;rfl,fun _=>by dsimp only at b1k ⊢;omega⟩,rfl,rfl⟩,hS⟩
theorem Hn (b:Nat)(m:Int)(h0:0≤m)(h1:m≤281474976710656):Gv Tryz.prog 213 #[.pointer (some ⟨b,0,none⟩), .int .i64 m] [AJ.box b 136 (D2.enc ⟨none,⟨none,0,0⟩⟩)] (fun v B=>∃ h',v = .tuple #[]∧h'.Z∧h'.len=0∧B = [AJ.box b 136 (D2.enc ⟨some ⟨b,0,none⟩,h'⟩),AJ.own h' 5 1 (([]:AL).flatMap CH)]):=by
 intro w hS0
 refine AU _ _ Tryz.func213 J J J (hS0) ?_
 refine W ?_
 refine Cl (.c .h .n) (Cf _ _ _ (.inl J)) (fun v1 B hv=>?_)
 obtain⟨rfl,rfl⟩:=hv
 refine W ?_
 refine Kf (by simp;omega) ?_
 refine W ?_
 refine⟨fun c1 c1p=>?_,fun c1 c1p=>?_⟩
 ·
  refine W ?_
  refine Cl (.c .h .n) (Ho _ _ (by dsimp only at *;omega) h1) (fun v2 B hv=>?_)
  obtain⟨y3,rfl,y4,y5,rfl⟩:=hv
  refine W ?_
  intro w1 hS
  have hS:=(hS.perm (AK.perm (.c .h (.c .h .n)))).AM
  exact⟨_,⟨_,J,by assumption,by assumption,rfl⟩,hS⟩
 refine W ?_
 intro w1 hS
 have hS:=hS.BX 5 1
 have hS:=(hS.perm (AK.perm (.c (.t .h) (.c .h .n)))).AM
 exact⟨_,⟨_,J,Hd.WK,J,J⟩,hS⟩
theorem Gb (s:AL)(hs:s.length≤70368744000000)(w:World):Ck Tryz.prog 190 #[Ae s,Ae [255],Ae [255,255], .int .i64 (-1)] w fun v w'=>v=Ae (Page.escape s)∧BG w w':=by
 have hcl:=List.count_le_length (a:=(255:UInt8)) (l:=s)
 refine Rb Tryz.func190 ?_
 refine W ?_
 refine⟨fun c1 c1p=>?_,fun c1 c1p=>?_⟩
 ·
  refine W ?_
  have e:s.count 255=0:=by simp at c1;omega
  rw [Page.NL _ e];rfl
 refine W ?_
 intro b1
 refine Cl (.c (.t .h) .n) (Hn _ _ (by simp only [List.length_cons,List.length_nil];omega) (by simp only [List.length_cons,List.length_nil];omega)) (fun v1 B hv=>?_)
 obtain⟨y2,rfl,y3,y4,rfl⟩:=hv
 refine W ?_
 refine Ag (.t7 11 53 0 1 2 10 52) ?_
 refine AX (.t .h) ?_
 refine AX (.t .h) ?_
 refine Ic (fun(k:Int) (start:Int) (x:AL) (p:Option Addr) (h:Hd)=>Page.RY s (s.count 255) k start x∧(p=none∨p=some ⟨b1,0,none⟩)∧h.Z∧h.len=x.length) (fun(k:Int) (start:Int) (x:AL) (p:Option Addr) (h:Hd)=>((s.count 255:Int) - k).toNat) (fun(k:Int) (start:Int) (x:AL) (p:Option Addr) (h:Hd)=> [(11, .int .i64 start),(53, .int .i64 k)]) (fun(k:Int) (start:Int) (x:AL) (p:Option Addr) (h:Hd)=> [AJ.box b1 136 (D2.enc ⟨p,h⟩),AJ.own h 5 1 (x.flatMap CH)]) (0) (0) ([]) (_) (_) ?_ J J (fun k start x p h hI1=>?_)
 · exact⟨Page.RY.start J, .inr J,by assumption,by assumption⟩
 obtain⟨hI11,hp,hz,hl⟩:=hI1;have hk0:=hI11.k0;have hs0:=hI11.s0;have hs1:=hI11.s1;have hxl:=hI11.xl
 refine W ?_
 refine⟨fun c2 c2p=>?_,fun c2 c2p=>?_⟩
 ·
  obtain⟨i,hi,hlt,hR⟩:=hI11.idx (by omega)
  rw [← hi] at hR hlt
  refine W ?_
  refine Cl (.c .h (.c .h .n)) (Av _ _ _ _ (by assumption) (by assumption) (by assumption) _ (by(try simp only [List.length_drop,List.length_take,List.length_append,List.length_cons,List.length_nil]);omega)) (fun v6 B hv=>?_)
  obtain⟨y7,y8,rfl,y9,y10,y11,rfl⟩:=hv
  refine W ?_
  refine Cl (.c .h (.c .h .n)) (Av _ _ _ _ (by assumption) (by assumption) (by assumption) _ (by(try simp only [List.length_drop,List.length_take,List.length_append,List.length_cons,List.length_nil]);omega)) (fun v12 B hv=>?_)
  obtain⟨y13,y14,rfl,y15,y16,y17,rfl⟩:=hv
  refine W ?_
  refine Cq (k+1) _ _ _ _ ?_ ?_ (.t7 11 53 0 1 2 10 52) (.refl _)
  · exact⟨hR,by assumption,by assumption,by assumption⟩
  · omega
 refine W ?_
 refine Cl (.c .h (.c .h .n)) (Av _ _ _ _ (by assumption) (by assumption) (by assumption) _ (by(try simp only [List.length_drop,List.length_take,List.length_append,List.length_cons,List.length_nil]);omega)) (fun v18 B hv=>?_)
 obtain⟨y19,y20,rfl,y21,y22,y23,rfl⟩:=hv
 refine W ?_
 refine Cl (.c .h (.c .h .n)) (CP _ _ _ _ (by assumption) (by assumption) (by(try simp only [List.length_append,List.length_drop]);omega)) (fun v24 B hv=>?_)
 obtain⟨rfl,rfl⟩:=hv
 refine W ?_
 rw [← hI11.done (by omega)];rfl
instance:DY Tryz.prog 190 (type_of% @Gb):=⟨@Gb⟩
theorem FG (s:AL)(hs:s.length≤70368744000000)(w:World):Ck Tryz.prog 158 #[Ae s,Ae [255],Ae [255,255]] w fun v w'=>v=Ae (Page.escape s)∧BG w w':=by
 refine Rb Tryz.func158 ?_
 refine W ?_
 rfl
instance:DY Tryz.prog 158 (type_of% @FG):=⟨@FG⟩
theorem Hi (s:AL)(hs:s.length≤70368744000000)(w:World):Ck Tryz.prog 121 #[Ae s] w fun v w'=>v=Ae (Page.escape s)∧BG w w':=by
 refine Rb Tryz.func121 ?_
 refine W ?_
 rfl
instance:DY Tryz.prog 121 (type_of% @Hi):=⟨@Hi⟩
theorem No {t0:Nat}(p:A7)(qs:List AL)(top:Int)(hs:∀ s∈qs,s.length≤70368744000000):Cw Tryz.prog 81 #[.agg p.enc.toArray, .int .i64 top] [] (fun w=>Rd w p.wait t0 1 (qs.flatMap Ac)∧p.wait.len≤p.wait.cap) (fun v B=>((!Page.A3 p || decide (top < 0) || decide (200 < top))=true∧v = .tuple #[.agg p.enc.toArray, .int .i64 2]∧B = [])∨((!Page.A3 p || decide (top < 0) || decide (200 < top))=false∧∃(T:Nat) (h' g:Hd) (zs:List AL),v = .tuple #[.agg (A7.enc ⟨h',(Page.BJ top qs (Page.of p)).1.shown,(Page.BJ top qs (Page.of p)).1.BS,(Page.BJ top qs (Page.of p)).1.ring,(Page.BJ top qs (Page.of p)).1.cut⟩).toArray, .int .i64 0]∧h'.len=(Page.BJ top qs (Page.of p)).2.length∧fP T h' (Page.BJ top qs (Page.of p)).2 t0 p.wait qs 9 g zs∧B = [AJ.own g 9 1 (zs.flatMap Ac)])):=by
 intro w hS0 hH
 obtain⟨r0,k0⟩:=hH
 have hl0:=r0.HQ Ct (by decide)
 refine AU _ _ Tryz.func81 J J J (hS0) ?_
 refine W ?_
 intro b1 b2
 refine⟨fun c1 c1p=>?_,fun c1 c1p=>?_⟩
 ·
  refine W ?_
  intro w1 hS
  have hS:=(hS.perm (AK.perm .n)).AM
  exact⟨_, .inl ⟨c1,J,J⟩,hS⟩
 have hgd:Page.A3 p=true∧0≤top∧top≤200:=by simp at c1;exact⟨c1.1.1,by omega,by omega⟩
 refine W ?_
 refine Ag (.t3 1 2 4) ?_
 refine CA Ac 9 1 ?_
 refine AX (.t (.t .h)) ?_
 refine AX (.t .h) ?_
 refine Yn (fun(rest:List AL) (sh:Int) (ak:Bool) (ring:AL) (ct:Bool) (T:Nat) (hx:Hd) (g:Hd) (zs:List AL)=>Page.FI top qs (Page.of p) rest hx ⟨sh,ak,ring,ct⟩∧fP T hx rest t0 p.wait qs 9 g zs) (fun(rest:List AL) (sh:Int) (ak:Bool) (ring:AL) (ct:Bool) (T:Nat) (hx:Hd) (g:Hd) (zs:List AL)=>rest.length) (fun(rest:List AL) (sh:Int) (ak:Bool) (ring:AL) (ct:Bool) (T:Nat) (hx:Hd) (g:Hd) (zs:List AL)=> []) (fun(rest:List AL) (sh:Int) (ak:Bool) (ring:AL) (ct:Bool) (T:Nat) (hx:Hd) (g:Hd) (zs:List AL)=> [AJ.own g 9 1 (zs.flatMap Ac),AJ.box b1 60 (A7.enc ⟨hx,sh,ak,ring,ct⟩)]) (qs) (p.shown) (p.BS) (p.ring) (p.cut) (t0) (p.wait) (_) (_) ?_ J J (fun rest sh ak ring ct T hx g zs hI1=>?_)
 · exact⟨Page.FI.start hgd.1 hl0 hs, .inl ⟨J,J,J,J,J⟩⟩
 obtain⟨hI11,hor⟩:=hI1;have hl:=hI11.hl;have hn:=hI11.n;have hr:=hI11.ring;have hs0:=hI11.s0;have hs1:=hI11.s1;dsimp only at hr hs0 hs1
 refine W ?_
 refine⟨fun c2 c2p=>?_,fun c2 c2p=>?_⟩
 ·
  have hc3:0 < rest.length∧ak=false∧ct=false:=by simp at c2;exact⟨by omega,c2.1.2,c2.2⟩
  obtain⟨hc0,hak,hct⟩:=hc3
  obtain⟨q,r,rfl⟩:=Aa.Nx (qs:=rest) (by omega)
  refine W ?_
  refine⟨fun c3 c3p=>?_,fun c3 c3p=>?_⟩
  ·
   try have:=Page.E7 ((q :: r).getD (0:Int).toNat [])
   try have:=hI11.len ((q :: r).getD (0:Int).toNat []) (by simp)
   refine W ?_
   intro w1 hS
   have hS:=(hS.perm (AK.perm (.c .h .n))).AM
   have e:=hI11.asks hak hct c3
   exact⟨_, .inr ⟨c1,T,hx,g,zs,(by first | (rw [e];done) | (rw [e];rfl)),(by rw [e];exact hI11.hl),(by rw [e];exact hor),J⟩,hS⟩
  refine W ?_
  refine Gt (OO Tryz.underlying56 QJ J J (by decide) (by first | omega | (have h1:=Page.E7 ((q :: r).getD (0:Int).toNat []);have h2:=hI11.len ((q :: r).getD (0:Int).toNat []) (by simp);simp only [List.length_append,List.length_cons,List.length_nil] at *;omega))) ?_
  refine W ?_
  refine Cm .n (BR _ r (by simp only [List.length_cons] at *;omega)) (fun v2 B hv=>?_) (fun _=>(fun w hS=>by have h:=(Kn.cut (l:=1) (r:=hx.len) Ct (gI hor (Kn.IW r0) (Kn.own .m0)) (by omega) (Nat.le_refl _) (gH hor (U1.of k0) (U1.own .m0))) w hS;rw [show(((q :: r).take hx.len).drop 1)=r from by rw [List.take_of_length_le (by simp only [List.length_cons] at *;omega)];rfl] at h;exact h))
  obtain⟨y3,rfl,y4,rfl⟩:=hv
  try have:=Page.E7 ((q :: r).getD (0:Int).toNat [])
  try have:=hI11.len ((q :: r).getD (0:Int).toNat []) (by simp)
  refine W ?_
  refine As (.c .h (.c (.t .h) (.c (.t .h) .n))) ?_
  refine Ax ?_
  refine XA (r) _ _ _ _ (9) _ _ (r) ?_ ?_ (.t3 1 2 4) (.refl _)
  · exact⟨hI11.next hak hct c3 (by assumption) J, .inr ⟨J,J,J⟩⟩
  · simp only [List.length_cons];omega
 refine W ?_
 intro w1 hS
 have hS:=(hS.perm (AK.perm (.c .h .n))).AM
 have e:=hI11.dU c2
 exact⟨_, .inr ⟨c1,T,hx,g,zs,(by first | (rw [e];done) | (rw [e];rfl)),(by rw [e];exact hI11.hl),(by rw [e];exact hor),J⟩,hS⟩
theorem Du (b:Nat)(V:AE)(ls:Vector Af 4)(ev:List Ing.Event)(n m:Nat)(hF:AG.Fit (AO V ls ev) n m)(hn:n≤600000)(hm:m≤600000):Cw Tryz.prog 40 #[.pointer (some ⟨b,0,none⟩)] [AJ.box b 95 (AE.enc V),AJ.CQ (BF 9 (AE.AQ V) ls),AJ.own (AE.last V) 100 16 ((ev).flatMap Ing.Event.enc)] (fun w=>(GV 3 Dw w∧3 ∉ BP [AJ.box b 95 (AE.enc V),AJ.CQ (BF 9 (AE.AQ V) ls),AJ.own (AE.last V) 100 16 ((ev).flatMap Ing.Event.enc)])∧(GV 1 AD.Bf w∧1 ∉ BP [AJ.box b 95 (AE.enc V),AJ.CQ (BF 9 (AE.AQ V) ls),AJ.own (AE.last V) 100 16 ((ev).flatMap Ing.Event.enc)])∧(Ea 8 w∧8 ∉ BP [AJ.box b 95 (AE.enc V),AJ.CQ (BF 9 (AE.AQ V) ls),AJ.own (AE.last V) 100 16 ((ev).flatMap Ing.Event.enc)])∧(Ea 9 w∧9 ∉ BP [AJ.box b 95 (AE.enc V),AJ.CQ (BF 9 (AE.AQ V) ls),AJ.own (AE.last V) 100 16 ((ev).flatMap Ing.Event.enc)])) (fun v B=>∃ V' ls' ev',v = .tuple #[]∧AO V' ls' ev'=AG.BJ (AO V ls ev)∧B = [AJ.box b 95 (AE.enc V'),AJ.CQ (BF 9 (AE.AQ V') ls'),AJ.own (AE.last V') 100 16 ((ev').flatMap Ing.Event.enc)]):=by
 intro w hS0 hH
 obtain⟨⟨gl0,gm0⟩,⟨gl1,gm1⟩,⟨gl2,gm2⟩,⟨gl3,gm3⟩⟩:=hH
 refine AU _ _ Tryz.func40 J J J (hS0) ?_
 refine W ?_
 refine Ag (.t2 5 0) ?_
 refine AX (.t (.t .h)) ?_
 refine AX (.t (.t .h)) ?_
 refine AX (.t (.t .h)) ?_
 refine Dd (fun(k:Int) (V1:AE) (ls1:Vector Af 4) (ev1:List Ing.Event)=>0≤k∧k≤5∧(AO V ls ev).BJ=(AO V1 ls1 ev1).HN (5 - k).toNat∧AG.Fit (AO V1 ls1 ev1) (n+44 * k.toNat) (m+44 * k.toNat)) (fun(k:Int) (V1:AE) (ls1:Vector Af 4) (ev1:List Ing.Event)=>(5 - k).toNat) (fun(k:Int) (V1:AE) (ls1:Vector Af 4) (ev1:List Ing.Event)=> [(5, .int .i64 k)]) (fun(k:Int) (V1:AE) (ls1:Vector Af 4) (ev1:List Ing.Event)=> [AJ.box b 95 (AE.enc V1),AJ.CQ (BF 9 (AE.AQ V1) ls1),AJ.own (AE.last V1) 100 16 (ev1.flatMap Ing.Event.enc)]) (0) (V) (ls) (ev) ?_ J J (fun k V1 ls1 ev1 hI1=>?_)
 · exact⟨by omega,by omega,rfl,hF⟩
 obtain⟨hI11,hI12,hI13,hI14⟩:=hI1
 refine W ?_
 refine⟨fun c1 c1p=>?_,fun c1 c1p=>?_⟩
 ·
  refine W ?_
  refine Ag (.t4 2 7 0 5) ?_
  refine AX (.t (.t .h)) ?_
  refine AX (.t (.t .h)) ?_
  refine AX (.t (.t .h)) ?_
  refine Ic (fun(i:Int) (V2:AE) (ls2:Vector Af 4) (ev2:List Ing.Event) (c:Bool)=>0≤i∧i≤4∧((AO V2 ls2 ev2),c)=(AO V1 ls1 ev1).CI i.toNat) (fun(i:Int) (V2:AE) (ls2:Vector Af 4) (ev2:List Ing.Event) (c:Bool)=>(4 - i).toNat) (fun(i:Int) (V2:AE) (ls2:Vector Af 4) (ev2:List Ing.Event) (c:Bool)=> [(2, .bool c),(7, .int .i64 i)]) (fun(i:Int) (V2:AE) (ls2:Vector Af 4) (ev2:List Ing.Event) (c:Bool)=> [AJ.box b 95 (AE.enc V2),AJ.CQ (BF 9 (AE.AQ V2) ls2),AJ.own (AE.last V2) 100 16 (ev2.flatMap Ing.Event.enc)]) (0) (V1) (ls1) (ev1) (false) ?_ J J (fun i V2 ls2 ev2 c hI2=>?_)
  · exact⟨by omega,by omega,rfl⟩
  obtain⟨hI21,hI22,hI23⟩:=hI2
  refine W ?_
  refine⟨fun c2 c2p=>?_,fun c2 c2p=>?_⟩
  ·
   have hi:0≤i∧i < 4:=⟨by omega,by omega⟩
   have hF2:=Mp hI14 hi.1 (by omega) hI23
   refine W ?_
   refine⟨fun c3 c3p=>?_,fun c3 c3p=>?_⟩
   ·
    refine W ?_
    refine Cq (i+1) _ _ _ _ ?_ ?_ (.t4 2 7 0 5) (.refl _)
    · exact⟨by omega,by omega,((Fv hi.1 hi.2 hI23).trans (AN c3)).symm⟩
    · omega
   refine Ws 100082 ?_
   refine AX (.t (.t .h)) ?_
   refine AX (.t (.t .h)) ?_
   refine AX (.t (.t .h)) ?_
   refine Ka (Lm:= [_,_,_]) (fun(V3:AE) (ls3:Vector Af 4)=>(AO V3 ls3 ev2)=(AO V2 ls2 ev2).set i ((AO V2 ls2 ev2).at_ i).BJ) (fun(V3:AE) (ls3:Vector Af 4)=> []) (fun(V3:AE) (ls3:Vector Af 4)=> [AJ.box b 95 (AE.enc V3),AJ.CQ (BF 9 (AE.AQ V3) ls3),AJ.own (AE.last V3) 100 16 (ev2.flatMap Ing.Event.enc)]) (.t5 0 2 4 5 7) J ?_ (fun V3 ls3 hC=>?_)
   ·
    refine Ws 8 ?_
    refine C8 (k:=i) hi.1 hi.2 (fun sv sl hsv hlv hln=>?_)
    refine W ?_
    refine Cm .n (No _ _ _ (by rw [← hlv];exact Sd hF2 hi.1 hi.2)) (fun v1 B hv=>?_) (fun _=>(fun w hS=>⟨(Kn.own .m1) w hS,(U1.own .m1) w hS⟩))
    rcases hv with ⟨y2,rfl,rfl⟩ | ⟨y3,y4,y5,y6,y7,rfl,y8,y9,rfl⟩
    ·
     refine W ?_
     refine As (.c .h (.c .h (.c .h (.c .h (.c .h .n))))) ?_
     refine Lx hi.1 hi.2 (by rfl) (by rfl) (by rfl) ?_
     refine Bx _ _ ?_ (.t5 0 2 4 5 7) (.refl _)
     · exact B3 hi.1 hi.2 hsv hlv (f:=Ao.BJ) (Ol hln.2.1 y2)
    refine W ?_
    refine As (.c .h (.c (.t .h) .n)) ?_
    refine gD y9 ?_
    refine As (.c (.t .h) (.c .h (.c .h (.c .h (.c .h .n))))) ?_
    refine Lx hi.1 hi.2 (by rfl) (by rfl) (by rfl) ?_
    refine Bx _ _ ?_ (.t5 0 2 4 5 7) (.refl _)
    · exact B3 hi.1 hi.2 hsv hlv (f:=Ao.BJ) (WX hln.2.1 y3 _)
   refine W ?_
   refine⟨fun c4 c4p=>?_,fun c4 c4p=>?_⟩
   ·
    refine W ?_
    refine Cm (.c .h (.c .h (.c .h .n))) (IT _ V3 ls3 ev2 i _ _ hi (by rw [hC];exact hF2.WW hi.1 hi.2) (by omega) (by omega)) (fun v13 B hv=>?_)
    obtain⟨y14,y15,y16,rfl,y17,rfl⟩:=hv
    refine W ?_
    refine Cq (i+1) _ _ _ _ ?_ ?_ (.t4 2 7 0 5) (.refl _)
    · exact⟨by omega,by omega,(((Fv hi.1 hi.2 hI23).trans ((AB c3).trans (AN (show _=true from(N8 hi.1 hi.2 hC).symm.trans c4)))).trans (by rw [← hC,← y17])).symm⟩
    · omega
   refine W ?_
   refine Cq (i+1) _ _ _ _ ?_ ?_ (.t4 2 7 0 5) (.refl _)
   · exact⟨by omega,by omega,(((Fv hi.1 hi.2 hI23).trans ((AB c3).trans (AB (show _=false from(N8 hi.1 hi.2 hC).symm.trans c4)))).trans (by rw [← hC])).symm⟩
   · omega
  obtain rfl:i=4:=by omega
  have hE:(AO V1 ls1 ev1).CI 4=((AO V2 ls2 ev2),c):=hI23.symm
  refine W ?_
  refine⟨fun c5 c5p=>?_,fun c5 c5p=>?_⟩
  ·
   refine W ?_
   intro w1 hS
   have hS:=(hS.perm (AK.perm (.c .h (.c .h (.c .h .n))))).AM
   refine⟨_,⟨V2,ls2,ev2,J,?ga1,J⟩,hS⟩
   case ga1=>exact(hI13.trans ((Oj hI11 (by omega)).trans ((AN (show(!((AO V1 ls1 ev1).CI 4).2)=true by rw [hE];exact c5)).trans (by rw [hE])))).symm
  refine W ?_
  refine BL (k+1) _ _ _ ?_ ?_ (.t2 5 0) (.refl _)
  · exact⟨by omega,by omega,hI13.trans ((Oj hI11 (by omega)).trans ((AB (show(!((AO V1 ls1 ev1).CI 4).2)=false by rw [hE];exact c5)).trans (by rw [hE]))),(Mp hI14 (by omega) (by omega) hI23).mono (by omega) (by omega)⟩
  · omega
 refine W ?_
 intro w1 hS
 have hS:=(hS.perm (AK.perm (.c .h (.c .h (.c .h .n))))).AM
 refine⟨_,⟨V1,ls1,ev1,J,?ga2,J⟩,hS⟩
 case ga2=>exact(hI13.trans (by rw [show(5 - k).toNat=0 by omega];rfl)).symm
theorem QA (b:Nat)(V:AE)(ls:Vector Af 4)(ev:List Ing.Event)(d:Int)(n m:Nat)(hF:AG.Fit (AO V ls ev) n m)(hn:n≤500000)(hm:m≤500000):Cw Tryz.prog 34 #[.pointer (some ⟨b,0,none⟩), .int .i64 d] [AJ.box b 95 (AE.enc V),AJ.CQ (BF 9 (AE.AQ V) ls),AJ.own (AE.last V) 100 16 ((ev).flatMap Ing.Event.enc)] (fun w=>(GV 3 Dw w∧3 ∉ BP [AJ.box b 95 (AE.enc V),AJ.CQ (BF 9 (AE.AQ V) ls),AJ.own (AE.last V) 100 16 ((ev).flatMap Ing.Event.enc)])∧(GV 1 AD.Bf w∧1 ∉ BP [AJ.box b 95 (AE.enc V),AJ.CQ (BF 9 (AE.AQ V) ls),AJ.own (AE.last V) 100 16 ((ev).flatMap Ing.Event.enc)])∧(Ea 8 w∧8 ∉ BP [AJ.box b 95 (AE.enc V),AJ.CQ (BF 9 (AE.AQ V) ls),AJ.own (AE.last V) 100 16 ((ev).flatMap Ing.Event.enc)])∧(Ea 9 w∧9 ∉ BP [AJ.box b 95 (AE.enc V),AJ.CQ (BF 9 (AE.AQ V) ls),AJ.own (AE.last V) 100 16 ((ev).flatMap Ing.Event.enc)])) (fun v B=>∃ V' ls' ev',v = .tuple #[]∧AO V' ls' ev'=AG.PV (AO V ls ev) d∧B = [AJ.box b 95 (AE.enc V'),AJ.CQ (BF 9 (AE.AQ V') ls'),AJ.own (AE.last V') 100 16 ((ev').flatMap Ing.Event.enc)]):=by
 intro w hS0 hH
 obtain⟨⟨gl0,gm0⟩,⟨gl1,gm1⟩,⟨gl2,gm2⟩,⟨gl3,gm3⟩⟩:=hH
 refine AU _ _ Tryz.func34 J J J (hS0) ?_
 refine W ?_
 refine Ag (.t3 8 0 1) ?_
 refine AX (.t (.t .h)) ?_
 refine AX (.t (.t .h)) ?_
 refine AX (.t (.t .h)) ?_
 refine Dd (fun(i:Int) (V1:AE) (ls1:Vector Af 4) (ev1:List Ing.Event)=>0≤i∧i≤4∧(AO V1 ls1 ev1)=AG.turns (AO V ls ev) i.toNat) (fun(i:Int) (V1:AE) (ls1:Vector Af 4) (ev1:List Ing.Event)=>(4 - i).toNat) (fun(i:Int) (V1:AE) (ls1:Vector Af 4) (ev1:List Ing.Event)=> [(8, .int .i64 i)]) (fun(i:Int) (V1:AE) (ls1:Vector Af 4) (ev1:List Ing.Event)=> [AJ.box b 95 (AE.enc V1),AJ.CQ (BF 9 (AE.AQ V1) ls1),AJ.own (AE.last V1) 100 16 (ev1.flatMap Ing.Event.enc)]) (0) (V) (ls) (ev) ?_ J J (fun i V1 ls1 ev1 hI1=>?_)
 · exact⟨by omega,by omega,rfl⟩
 obtain⟨hI11,hI12,hI13⟩:=hI1
 refine W ?_
 refine⟨fun c1 c1p=>?_,fun c1 c1p=>?_⟩
 ·
  have hi:0≤i∧i < 4:=⟨by omega,by omega⟩
  refine W ?_
  refine Cm (.c .h (.c .h (.c .h .n))) (R5 _ V1 ls1 ev1 i (n+44) (m+44) hi (by rw [hI13];exact(AG.HH hF i.toNat (by omega)).mono (by omega) (by omega)) (by omega) (by omega)) (fun v1 B hv=>?_)
  obtain⟨y2,y3,y4,rfl,y5,rfl⟩:=hv
  refine W ?_
  refine BL (i+1) _ _ _ ?_ ?_ (.t3 8 0 1) (.refl _)
  · exact⟨by omega,by omega,y5.trans (by rw [hI13];exact(Ps hI11).symm)⟩
  · omega
 obtain rfl:i=4:=by omega
 have hF1:=AG.HH hF 4 (Nat.le_refl 4)
 rw [show(4:Nat)=(4:Int).toNat from rfl,← hI13] at hF1
 have hrl:(AA.BW V1.w d).2.1.length≤78:=AA.M7 hF1.Fg.GN d
 have hrs:=AA.Ll (draw:=d) hF1.Fg
 have hF4:=((hF1.land hrs.1).Fi hrs.2).mono (Nat.add_le_add_left hrl _) (Nat.add_le_add_left hrl _)
 refine W ?_
 refine Cm .n (M9 V1.w d hF1.Fg.GN) (fun v6 B hv=>?_)
 obtain⟨y7,rfl,y8,rfl⟩:=hv
 refine W ?_
 intro b1
 refine Cm (.c (.t (.t .h)) (.c (.t (.t .h)) (.c (.t (.t .h)) (.c (.t .h) .n)))) (Ed _ { V1 with w:=(AA.BW V1.w d).1 } ls1 ev1 _ (AA.BW V1.w d).2.1 _ (by assumption) (Cx hF1) (by omega) (Nat.le_trans hF1.last (by omega)) (fun e he c _=>hrs.2 e he)) (fun v10 B hv=>?_)
 obtain⟨y11,y12,y13,rfl,y14,rfl⟩:=hv
 refine W ?_
 refine Cm (.c .h (.c .h (.c .h .n))) (Du _ y11 y12 y13 _ _ (by rw [y14];exact hF4) (by omega) (by omega)) (fun v15 B hv=>?_)
 obtain⟨y16,y17,y18,rfl,y19,rfl⟩:=hv
 refine W ?_
 intro w1 hS
 have hS:=(hS.perm (AK.perm (.c .h (.c .h (.c .h .n))))).AM
 refine⟨_,⟨y16,y17,y18,J,?ga1,J⟩,hS⟩
 case ga1=>rw [y19,y14,JJ];show AG.BJ (AG.Fi { (AO V1 ls1 ev1) with w:=(AA.BW ((AO V1 ls1 ev1)).w d).1 } (AA.BW ((AO V1 ls1 ev1)).w d).2.1)=_;rw [hI13];rfl
theorem IG (opt:Int)(w:World):Ck Tryz.prog 117 #[.int .i64 opt] w fun v w'=>v = .tuple #[.int .i64 (AI.place opt).1, .bool (AI.place opt).2.1, .bool (AI.place opt).2.2]∧BG w w':=by
 refine Rb Tryz.func117 ?_
 refine W ?_
 refine⟨fun c1 c1p=>?_,fun c1 c1p=>?_⟩
 ·
  refine W ?_
  simp only [AI.place,c1,↓reduceIte,Bool.false_eq_true];rfl
 refine W ?_
 refine⟨fun c2 c2p=>?_,fun c2 c2p=>?_⟩
 ·
  refine W ?_
  simp only [AI.place,c1,c2,↓reduceIte,Bool.false_eq_true];rfl
 refine W ?_
 refine⟨fun c3 c3p=>?_,fun c3 c3p=>?_⟩
 ·
  refine W ?_
  simp only [AI.place,c1,c2,c3,↓reduceIte,Bool.false_eq_true];rfl
 refine W ?_
 simp only [AI.place,c1,c2,c3,↓reduceIte,Bool.false_eq_true];rfl
instance:DY Tryz.prog 117 (type_of% @IG):=⟨@IG⟩
theorem I4 (X:AI)(w:World):Ck Tryz.prog 69 #[.agg X.enc.toArray] w fun v w'=>v = .bool X.A3∧BG w w':=by
 refine Rb Tryz.func69 ?_
 refine W ?_
 intro b1
 refine Ag (.t2 4 1) ?_
 refine A8 (fun(k:Int)=>0≤k∧k≤3∧X.A3=(A2 3 (fun i=>!X.OX i) (3 - k).toNat && (!(!decide (X.us.at 2=0) || !decide (X.Dl.at 0=0)) && X.NN))) (fun(k:Int)=>(3 - k).toNat) (fun(k:Int)=> [(4, .int .i64 k)]) (fun(k:Int)=> []) (0) ?_ J J (fun k hI1=>?_)
 · exact⟨Int.le_refl _,by omega,rfl⟩
 obtain⟨hI11,hI12,hI13⟩:=hI1
 refine W ?_
 refine⟨fun c1 c1p=>?_,fun c1 c1p=>?_⟩
 ·
  rw [Bj _ (by omega)] at hI13
  refine W ?_
  refine⟨fun c2 c2p=>?_,fun c2 c2p=>?_⟩
  ·
   refine W ?_
   refine congrArg Value.bool ?_;rw [hI13,AI.OX,c2];rfl
  refine W ?_
  refine Az (k+1) ?_ ?_ (.t2 4 1) (.refl _)
  · exact⟨by omega,by omega,by rw [hI13,AI.OX,c2];rfl⟩
  · omega
 obtain rfl:k=3:=by omega
 refine W ?_
 refine⟨fun c3 c3p=>?_,fun c3 c3p=>?_⟩
 ·
  refine W ?_
  refine congrArg Value.bool ?_;rw [hI13,c3];rfl
 refine W ?_
 refine congrArg Value.bool ?_;rw [hI13,c3];rfl
instance:DY Tryz.prog 69 (type_of% @I4):=⟨@I4⟩
theorem Ju (verb opt:Int)(h0:0≤verb∧verb≤255)(h1:0≤opt∧opt≤255)(w:World):Ck Tryz.prog 118 #[.int .i64 verb, .int .i64 opt] w fun v w'=>v=Ae (AI.YI verb opt)∧BG w w':=by
 refine Rb Tryz.func118 ?_
 refine W ?_
 refine Ib (cs:=BT (n:=3) eh (Vector.replicate 3 default)) J Tryz.underlying122 QI Uu (by decide) (by decide) (by kernel_rfl) (.cons (Ab.arr (n:=3) (i:=0) iR (by decide) (by decide)) J J J (.cons (Ab.arr (n:=3) (i:=1) iR (by decide) (by decide)) J J J (.cons (Ab.arr (n:=3) (i:=2) iR (by decide) (by decide)) J J J .nil))) ((IM iR).len _) (fun b1=>?_)
 refine Gt (HJ (s:=AI.YI verb opt) (by rw [show(AI.YI verb opt).flatMap CH = [.int .u8 255, .int .u8 verb, .int .u8 opt] from by simp [AI.YI,CH,Pt h0.1 h0.2,Pt h1.1 h1.2]];rfl) Tryz.underlying122 Tryz.underlying9 Tryz.underlying5 J (Kn.own .m0)) ?_
 refine W ?_
 rfl
instance:DY Tryz.prog 118 (type_of% @Ju):=⟨@Ju⟩
theorem IF (X:AI)(opt:Int)(w:World):Ck Tryz.prog 67 #[.agg X.enc.toArray, .int .i64 opt] w fun v w'=>v = .tuple #[.agg (X.Cs opt).1.enc.toArray,Ae (X.Cs opt).2.1, .int .i64 (X.Cs opt).2.2]∧BG w w':=by
 refine Rb Tryz.func67 ?_
 refine W ?_
 intro b1 b2
 refine⟨fun c1 c1p=>?_,fun c1 c1p=>?_⟩
 ·
  refine W ?_
  simp only [AI.Cs,c1,↓reduceIte,Bool.false_eq_true];rfl
 refine W ?_
 refine⟨fun c2 c2p=>?_,fun c2 c2p=>?_⟩
 ·
  refine W ?_
  simp only [AI.Cs,c1,c2,↓reduceIte,Bool.false_eq_true];rfl
 have hk:=AI.PT (opt:=opt) (by simpa using c2)
 have hk1:0≤(AI.place opt).1∧(AI.place opt).1 < 3:=by rcases hk with ⟨_,e⟩ | ⟨_,e⟩<;>rw [e]<;>decide
 have ho:0≤opt∧opt≤255:=by rcases hk with ⟨e,_⟩ | ⟨e,_⟩<;>omega
 refine W ?_
 refine⟨fun c3 c3p=>?_,fun c3 c3p=>?_⟩
 ·
  refine W ?_
  simp only [AI.Cs,c1,c2,c3,↓reduceIte,Bool.false_eq_true];rfl
 refine W ?_
 simp only [AI.Cs,c1,c2,c3,↓reduceIte,Bool.false_eq_true];rfl
instance:DY Tryz.prog 67 (type_of% @IF):=⟨@IF⟩
theorem Jt (X:AI)(opt:Int)(w:World):Ck Tryz.prog 68 #[.agg X.enc.toArray, .int .i64 opt] w fun v w'=>v = .tuple #[.agg (X.Ask opt).1.enc.toArray,Ae (X.Ask opt).2.1, .int .i64 (X.Ask opt).2.2]∧BG w w':=by
 refine Rb Tryz.func68 ?_
 refine W ?_
 intro b1 b2
 refine⟨fun c1 c1p=>?_,fun c1 c1p=>?_⟩
 ·
  refine W ?_
  simp only [AI.Ask,c1,↓reduceIte,Bool.false_eq_true];rfl
 refine W ?_
 refine⟨fun c2 c2p=>?_,fun c2 c2p=>?_⟩
 ·
  refine W ?_
  simp only [AI.Ask,c1,c2,↓reduceIte,Bool.false_eq_true];rfl
 have hk:=AI.Lk (opt:=opt) (by simpa using c2)
 have hk1:0≤(AI.place opt).1∧(AI.place opt).1 < 3:=by rcases hk with ⟨_,e⟩ | ⟨_,e⟩<;>rw [e]<;>decide
 have ho:0≤opt∧opt≤255:=by rcases hk with ⟨e,_⟩ | ⟨e,_⟩<;>omega
 refine W ?_
 refine⟨fun c3 c3p=>?_,fun c3 c3p=>?_⟩
 ·
  refine W ?_
  simp only [AI.Ask,c1,c2,c3,↓reduceIte,Bool.false_eq_true];rfl
 refine W ?_
 simp only [AI.Ask,c1,c2,c3,↓reduceIte,Bool.false_eq_true];rfl
instance:DY Tryz.prog 68 (type_of% @Jt):=⟨@Jt⟩
theorem R3 (b:Nat)(V:AE)(ls:Vector Af 4)(ev:List Ing.Event)(k:Int)(n m:Nat)(hk:0≤k∧k < 4)(hF:AG.Fit (AO V ls ev) n m)(hn:n≤500000)(hm:m≤500000):Cw Tryz.prog 35 #[.pointer (some ⟨b,0,none⟩), .pointer (some ⟨b,165+k.toNat * 22,none⟩)] [AJ.box b 95 (AE.enc V),AJ.CQ (BF 9 (AE.AQ V) ls),AJ.own (AE.last V) 100 16 ((ev).flatMap Ing.Event.enc)] (fun w=>(GV 3 Dw w∧3 ∉ BP [AJ.box b 95 (AE.enc V),AJ.CQ (BF 9 (AE.AQ V) ls),AJ.own (AE.last V) 100 16 ((ev).flatMap Ing.Event.enc)])∧(GV 1 AD.Bf w∧1 ∉ BP [AJ.box b 95 (AE.enc V),AJ.CQ (BF 9 (AE.AQ V) ls),AJ.own (AE.last V) 100 16 ((ev).flatMap Ing.Event.enc)])∧(Ea 8 w∧8 ∉ BP [AJ.box b 95 (AE.enc V),AJ.CQ (BF 9 (AE.AQ V) ls),AJ.own (AE.last V) 100 16 ((ev).flatMap Ing.Event.enc)])∧(Ea 9 w∧9 ∉ BP [AJ.box b 95 (AE.enc V),AJ.CQ (BF 9 (AE.AQ V) ls),AJ.own (AE.last V) 100 16 ((ev).flatMap Ing.Event.enc)])) (fun v B=>∃ V' ls' ev',v = .tuple #[]∧AO V' ls' ev'=AG.P7 (AO V ls ev) k∧B = [AJ.box b 95 (AE.enc V'),AJ.CQ (BF 9 (AE.AQ V') ls'),AJ.own (AE.last V') 100 16 ((ev').flatMap Ing.Event.enc)]):=by
 intro w hS0 hH
 obtain⟨⟨gl0,gm0⟩,⟨gl1,gm1⟩,⟨gl2,gm2⟩,⟨gl3,gm3⟩⟩:=hH
 refine AU _ _ Tryz.func35 J J J (hS0) ?_
 refine Ws 0 ?_
 refine C8 (k:=k) hk.1 hk.2 (fun sv sl hsv hlv hln=>?_)
 refine W ?_
 refine Ag (.t4 12 0 1 11) ?_
 refine AX (.t (.t (.t .h))) ?_
 refine Bq (fun(j:Int) (t:AI) (g:Page.Pg)=>0≤j∧j≤2∧t=(CJ j.toNat).1∧g=(CJ j.toNat).2) (fun(j:Int) (t:AI) (g:Page.Pg)=>(2 - j).toNat) (fun(j:Int) (t:AI) (g:Page.Pg)=> [(12, .int .i64 j)]) (fun(j:Int) (t:AI) (g:Page.Pg)=> [AJ.box b 95 (Fj V k (Df t g))]) (0) (default) (⟨0,false,[],false⟩) ?_ J J (fun j t g hI1=>?_)
 · exact⟨by omega,by omega,rfl,rfl⟩
 obtain⟨hI11,hI12,hI13,hI14⟩:=hI1
 refine W ?_
 refine⟨fun c1 c1p=>?_,fun c1 c1p=>?_⟩
 ·
  have ho1:=FB t ((((Vector.replicate 2 (default:Int)).put ((0:Nat):Int) 3).put ((1:Nat):Int) 31).at j)
  have ho2:=Hp (t.Cs ((((Vector.replicate 2 (default:Int)).put ((0:Nat):Int) 3).put ((1:Nat):Int) 31).at j)).1 ((((Vector.replicate 2 (default:Int)).put ((0:Nat):Int) 3).put ((1:Nat):Int) 31).at j)
  try have:=FB t (EH j)
  try have:=Hp (t.Cs (EH j)).1 (EH j)
  refine W ?_
  refine⟨fun c2 c2p=>?_,fun c2 c2p=>?_⟩
  ·
   refine W ?_
   refine Gt (LF J J (by first | omega | exact hk.1 | exact hk.2 | (have h1:=FB t (EH j);have h2:=Hp (t.Cs (EH j)).1 (EH j);dsimp only [EH,Df] at *;(try simp only [List.length_nil]);omega))) ?_
   refine W ?_
   refine Cp (fun w hS=>E1 _ _ (by simp only [List.length_append];have h1:=FB t (EH j);have h2:=Hp (t.Cs (EH j)).1 (EH j);dsimp only [EH,Df] at *;(try simp only [List.length_nil]);omega) w) ?_
   refine Ws 9 ?_
   refine CZ (c':=Fj V k (Df (IV t (EH j)) (Lh t g (EH j)))) (fun _=> .h) ?_ ?_
   · refine congrArg (Fj V k) ?_
     rw [Df,Lh,show IV t (EH j)=_ from AN c2,show M4 t (EH j)=_ from AN c2];rfl
   try have:=FB t (EH j)
   try have:=Hp (t.Cs (EH j)).1 (EH j)
   refine W ?_
   refine Ap (j+1) _ _ ?_ ?_ (.t4 12 0 1 11) (.refl _)
   · exact⟨by omega,by omega,by rw [HC hI11,← hI13,← hI14],by rw [HC hI11,← hI13,← hI14]⟩
   · omega
  refine W ?_
  refine Gt (LF J J (by first | omega | exact hk.1 | exact hk.2 | (have h1:=FB t (EH j);have h2:=Hp (t.Cs (EH j)).1 (EH j);dsimp only [EH,Df] at *;(try simp only [List.length_nil]);omega))) ?_
  refine W ?_
  refine Cp (fun w hS=>E1 _ _ (by simp only [List.length_append];have h1:=FB t (EH j);have h2:=Hp (t.Cs (EH j)).1 (EH j);dsimp only [EH,Df] at *;(try simp only [List.length_nil]);omega) w) ?_
  refine Ws 9 ?_
  refine CZ (c':=Fj V k (Df (IV t (EH j)) (Lh t g (EH j)))) (fun _=> .h) ?_ ?_
  · refine congrArg (Fj V k) ?_
    rw [Df,Lh,show IV t (EH j)=_ from AB c2,show M4 t (EH j)=_ from AB c2];rfl
  try have:=FB t (EH j)
  try have:=Hp (t.Cs (EH j)).1 (EH j)
  refine W ?_
  refine Ap (j+1) _ _ ?_ ?_ (.t4 12 0 1 11) (.refl _)
  · exact⟨by omega,by omega,by rw [HC hI11,← hI13,← hI14],by rw [HC hI11,← hI13,← hI14]⟩
  · omega
 obtain rfl:j=2:=by omega
 refine Ws 10 ?_
 refine CA Ac 9 1 ?_
 refine CA Ac 9 1 ?_
 refine CA Ac 9 1 ?_
 refine B6 (.c (.t (.t .h)) (.c (.t .h) (.c .h (.c .h (.c (.t (.t (.t .h))) .n))))) ?_
 refine Cr hk.1 hk.2 (by rfl) (by rfl) (by rfl) ?_
 refine W ?_
 refine Cl (.c .h (.c .h (.c (.t (.t (.t .h))) .n))) (Ee _ (AE.AY V k (Df t g)) (ls.put k ⟨[],[],[]⟩) ev k _ hk (by rw [Vector.Bk hk.1 hk.2];exact Nat.zero_le _)) (fun v4 B hv=>?_)
 obtain⟨y5,y6,y7,rfl,y8,rfl⟩:=hv
 refine W ?_
 refine Cm (.c .h (.c .h (.c .h .n))) (Du _ y5 y6 y7 (n+1) m (by rw [y8,(show AO (AE.AY V k (Df t g)) (ls.put k ⟨[],[],[]⟩) ev=AG.set (AO V ls ev) k (B5 (Df t g) Z1) from Fq V ls ev hk.1 hk.2 _ _)];exact(hF.comes hk.1 hk.2 t g).tell hk.1 hk.2 (show AG.CT.length≤_ by decide)) (by omega) (by omega)) (fun v9 B hv=>?_)
 obtain⟨y10,y11,y12,rfl,y13,rfl⟩:=hv
 refine W ?_
 intro w1 hS
 have hS:=(hS.perm (AK.perm (.c .h (.c .h (.c .h .n))))).AM
 refine⟨_,⟨y10,y11,y12,J,?ga1,J⟩,hS⟩
 case ga1=>rw [y13,y8,(show AO (AE.AY V k (Df t g)) (ls.put k ⟨[],[],[]⟩) ev=AG.set (AO V ls ev) k (B5 (Df t g) Z1) from Fq V ls ev hk.1 hk.2 _ _),hI13,hI14];unfold AG.P7;rw [← Li];rfl
end Go.Proofs.YtlmmdjaoikaceaaGreatDoor
