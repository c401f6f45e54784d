/- What the functions that the law HousePlays reaches compute: walks, part 11. No condition. -/
import Derived.Test.YtlmmdjaoikaceaaGreatDoorCards
import Derived.Test.YtlmmdjaoikaceaaGreatDoorTie
import Derived.Deep.DeepHandedRow
import Derived.Test.YtlmmdjaoikaceaaGreatDoorRows
import Derived.Test.YtlmmdjaoikaceaaGreatDoorHousePlaysEc3
import Derived.Test.YtlmmdjaoikaceaaGreatDoorHousePlaysRa1
import Derived.Test.YtlmmdjaoikaceaaGreatDoorHousePlaysRb1
import Derived.Test.YtlmmdjaoikaceaaGreatDoorHousePlaysRc1
import Derived.Test.YtlmmdjaoikaceaaGreatDoorHousePlaysRd1
import Derived.Test.YtlmmdjaoikaceaaGreatDoorHousePlaysWalks
import Derived.Test.YtlmmdjaoikaceaaGreatDoorHousePlaysWalks6
import Derived.Test.YtlmmdjaoikaceaaGreatDoorHousePlaysWalks7
import Derived.Test.YtlmmdjaoikaceaaGreatDoorHousePlaysWalks8
import Derived.Test.YtlmmdjaoikaceaaGreatDoorHousePlaysWalks9
import Derived.Test.YtlmmdjaoikaceaaGreatDoorHousePlaysWalks10
set_option linter.unusedSimpArgs false
set_option linter.unusedVariables false
set_option maxRecDepth 100000
set_option maxHeartbeats 4000000
namespace Go.Proofs.YtlmmdjaoikaceaaGreatDoor
open Go Go.Ing Go.RowKit Go.ChangeShapes Go.WideShapes Go.ChangeAt
theorem LD (b:Nat)(V:AE)(ls:Vector Ae 4)(ev:List Ing.Event)(k:Int)(n m:Nat)(hk:0≤k∧k < 4)(hF:AG.Fit (AO V ls ev) n m)(hn:n≤900000)(hm:m≤900000):Cz Tryz.prog 22 #[.pointer (some ⟨b,0,none⟩), .int .i64 k] [AJ.box b 65 (AE.enc V),AJ.CI (BB 9 (AE.AP V) ls),AJ.own (AE.last V) 100 16 ((ev).flatMap Ing.Event.enc)] (fun w=>(GV 3 EH w∧3 ∉ BV [AJ.box b 65 (AE.enc V),AJ.CI (BB 9 (AE.AP V) ls),AJ.own (AE.last V) 100 16 ((ev).flatMap Ing.Event.enc)])∧(GV 1 AD.Be w∧1 ∉ BV [AJ.box b 65 (AE.enc V),AJ.CI (BB 9 (AE.AP V) ls),AJ.own (AE.last V) 100 16 ((ev).flatMap Ing.Event.enc)])∧(GV 0 AD.Be w∧0 ∉ BV [AJ.box b 65 (AE.enc V),AJ.CI (BB 9 (AE.AP V) ls),AJ.own (AE.last V) 100 16 ((ev).flatMap Ing.Event.enc)])∧(Eo 8 w∧8 ∉ BV [AJ.box b 65 (AE.enc V),AJ.CI (BB 9 (AE.AP V) ls),AJ.own (AE.last V) 100 16 ((ev).flatMap Ing.Event.enc)])∧(Eo 9 w∧9 ∉ BV [AJ.box b 65 (AE.enc V),AJ.CI (BB 9 (AE.AP V) ls),AJ.own (AE.last V) 100 16 ((ev).flatMap Ing.Event.enc)])) (fun v B=>∃ V' ls' ev',v = .tuple #[]∧AO V' ls' ev'=AG.Dy (AO V ls ev) k∧B = [AJ.box b 65 (AE.enc V'),AJ.CI (BB 9 (AE.AP V') ls'),AJ.own (AE.last V') 100 16 ((ev').flatMap Ing.Event.enc)]):=by
 intro w hS0 hH
 obtain⟨⟨gl0,gm0⟩,⟨gl1,gm1⟩,⟨gl2,gm2⟩,⟨gl3,gm3⟩,⟨gl4,gm4⟩⟩:=hH
 refine AR _ _ Tryz.func22 J J J (hS0) ?_
 refine Ws 1 ?_
 refine Cj (k:=k) hk.1 hk.2 (fun sv sl hsv hlv hln=>?_)
 refine W ?_
 refine⟨fun c1 c1p=>?_,fun c1 c1p=>?_⟩
 ·
  refine W ?_
  intro w1 hS
  have hS:=(hS.perm (AK.perm (.c .h (.c .h (.c .h (.c .h (.c .h (.c .h .n)))))))).AM
  have hS:=hS.close' hk.1 hk.2 (by rfl) (by rfl) (by rfl)
  refine⟨_,⟨V.AZ k sv,ls.put k ⟨sl.queue,sl.wait,sl.told⟩,ev,J,?ga1,J⟩,hS⟩
  case ga1=>exact Yh hk.1 hk.2 hsv hlv hln.1 c1
 refine W ?_
 refine Cm .n (Mf _ _ (by have h:=(Qo hF hk.1 hk.2).1;rw [hlv] at h;omega)) (fun v1 B hv=>?_) (fun _=>(fun w hS=>⟨(Kn.own .m0) w hS,(VI.own .m0) w hS⟩))
 rcases hv with ⟨y2,rfl,rfl⟩ | ⟨y3,y4,y5,y6,rfl,y7,rfl⟩
 · exact absurd y2 (Yi hln.1 c1)
 refine W ?_
 intro b1
 refine⟨fun c2 c2p=>?_,fun c2 c2p=>?_⟩
 ·
  refine W ?_
  intro w1 hS
  have hS:=(hS.perm (AK.perm (.c (.t .h) (.c (.t (.t .h)) (.c (.t (.t .h)) (.c (.t (.t .h)) (.c (.t (.t .h)) (.c (.t (.t .h)) .n)))))))).AM
  have hS:=hS.close' hk.1 hk.2 (by rfl) (by rfl) (by rfl)
  have hT:=(CV (ev:=ev) hk.1 hk.2 hsv hlv y5 (Sy hsv c1) y6)
  refine⟨_,⟨(AE.AZ V k { sv with Ax:=⟨sv.Ax.now,sv.Ax.long,sv.Ax.ret,y6⟩,out:=⟨sv.out.wait,0,false,sv.out.ring,sv.out.cut⟩ }),(ls.put k ⟨y4,sl.wait,sl.told⟩),ev,J,?ga2,J⟩,hS⟩
  case ga2=>exact hT.1.trans (hT.2.2.trans (if_pos c2)).symm
 refine W ?_
 refine⟨fun c3 c3p=>?_,fun c3 c3p=>?_⟩
 ·
  refine Ws 8 ?_
  refine By (.c (.t .h) (.c (.t (.t .h)) (.c (.t (.t .h)) (.c (.t (.t .h)) (.c (.t (.t .h)) .n))))) ?_
  refine Ct hk.1 hk.2 (by rfl) (by rfl) (by rfl) ?_
  have hT:=(CV (ev:=ev) hk.1 hk.2 hsv hlv y5 (Sy hsv c1) y6)
  have hF3:(AO (AE.AZ V k { sv with Ax:=⟨sv.Ax.now,sv.Ax.long,sv.Ax.ret,y6⟩,out:=⟨sv.out.wait,0,false,sv.out.ring,sv.out.cut⟩ }) (ls.put k ⟨y4,sl.wait,sl.told⟩) ev).Fit n m:=by rw [hT.1];exact hF.Ev hk.1 hk.2 hT.2.1
  have hql:y3.length≤1000:=by have h:=(hF.queue k hk.1 hk.2).2 y3 (by rw [hT.2.1];exact List.mem_cons_self ..);omega
  have htn:=Cx hF3
  have hu8:(Words.DH 32 (Words.Dx 32 y3)).length≤1000:=by have h1:=Words.Mr 32 (Words.Dx 32 y3);have h2:=Words.Oa 32 y3;omega
  have hel:=AA.M9 V.w (Words.DH 32 (Words.Dx 32 y3))
  have hes:=AA.JW (s:=(Words.DH 32 (Words.Dx 32 y3))) hF.Fp
  refine W ?_
  refine Ey 6 12 J J (by kernel_rfl) ?_ ?_
  ·
   refine W ?_
   refine Cm .n (He V.w (Words.DH 32 (Words.Dx 32 y3)) hF.Fp.Gb (by omega)) (fun v9 B hv=>?_)
   obtain⟨y10,rfl,y11,rfl⟩:=hv
   refine W ?_
   intro b2
   refine⟨fun c4 c4p=>?_,fun c4 c4p=>?_⟩
   ·
    refine Ws 13 ?_
    refine By (.c (.t (.t .h)) (.c (.t (.t .h)) .n)) ?_
    refine Cj (k:=k) hk.1 hk.2 (fun sv2 sl2 hsv2 hlv2 hln2=>?_)
    refine Ws 14 ?_
    refine By (.c .h (.c .h (.c .h (.c .h (.c .h .n))))) ?_
    refine Ct hk.1 hk.2 (by rfl) (by rfl) (by rfl) ?_
    refine W ?_
    refine Cm (.c .h (.c .h (.c (.t (.t (.t (.t .h)))) (.c (.t .h) .n)))) (Bv _ (AE.AZ { (AE.AZ V k { sv with Ax:=⟨sv.Ax.now,sv.Ax.long,sv.Ax.ret,y6⟩,out:=⟨sv.out.wait,0,false,sv.out.ring,sv.out.cut⟩ }) with w:=(AA.Ao V.w (Words.DH 32 (Words.Dx 32 y3))).1 } k { sv2 with state:=2,AV:=(AA.Ao V.w (Words.DH 32 (Words.Dx 32 y3))).2.1 }) ((ls.put k ⟨y4,sl.wait,sl.told⟩).put k ⟨sl2.queue,sl2.wait,sl2.told⟩) ev _ (AA.Ao V.w (Words.DH 32 (Words.Dx 32 y3))).2.2.1 n (by assumption) (Cx (by rw [(show AO (AE.AZ { (AE.AZ V k { sv with Ax:=⟨sv.Ax.now,sv.Ax.long,sv.Ax.ret,y6⟩,out:=⟨sv.out.wait,0,false,sv.out.ring,sv.out.cut⟩ }) with w:=(AA.Ao V.w (Words.DH 32 (Words.Dx 32 y3))).1 } k { sv2 with state:=2,AV:=(AA.Ao V.w (Words.DH 32 (Words.Dx 32 y3))).2.1 }) ((ls.put k ⟨y4,sl.wait,sl.told⟩).put k ⟨sl2.queue,sl2.wait,sl2.told⟩) ev=({ (AO (AE.AZ V k { sv with Ax:=⟨sv.Ax.now,sv.Ax.long,sv.Ax.ret,y6⟩,out:=⟨sv.out.wait,0,false,sv.out.ring,sv.out.cut⟩ }) (ls.put k ⟨y4,sl.wait,sl.told⟩) ev) with w:=(AA.Ao V.w (Words.DH 32 (Words.Dx 32 y3))).1 }:AG).set k { AG.at_ (AO (AE.AZ V k { sv with Ax:=⟨sv.Ax.now,sv.Ax.long,sv.Ax.ret,y6⟩,out:=⟨sv.out.wait,0,false,sv.out.ring,sv.out.cut⟩ }) (ls.put k ⟨y4,sl.wait,sl.told⟩) ev) k with state:=2,AV:=(AA.Ao V.w (Words.DH 32 (Words.Dx 32 y3))).2.1 } from B4 (V:={ (AE.AZ V k { sv with Ax:=⟨sv.Ax.now,sv.Ax.long,sv.Ax.ret,y6⟩,out:=⟨sv.out.wait,0,false,sv.out.ring,sv.out.cut⟩ }) with w:=(AA.Ao V.w (Words.DH 32 (Words.Dx 32 y3))).1 }) hk.1 hk.2 hsv2 hlv2 (f:=fun x=>{ x with state:=2,AV:=(AA.Ao V.w (Words.DH 32 (Words.Dx 32 y3))).2.1 }) rfl)];exact hF3.enters hk.1 hk.2 (of_decide_eq_true c4))) (by omega) (Nat.le_trans hF.last (by omega)) hes.2) (fun v13 B hv=>?_)
    obtain⟨y14,y15,y16,rfl,y17,rfl⟩:=hv
    refine W ?_
    intro w1 hS
    have hS:=(hS.perm (AK.perm (.c .h (.c .h (.c .h .n))))).AM
    have hE:AO y14 y15 y16=AG.named (AO (AE.AZ V k { sv with Ax:=⟨sv.Ax.now,sv.Ax.long,sv.Ax.ret,y6⟩,out:=⟨sv.out.wait,0,false,sv.out.ring,sv.out.cut⟩ }) (ls.put k ⟨y4,sl.wait,sl.told⟩) ev) k (Words.DH 32 (Words.Dx 32 y3)):=Si (V:=(AE.AZ V k { sv with Ax:=⟨sv.Ax.now,sv.Ax.long,sv.Ax.ret,y6⟩,out:=⟨sv.out.wait,0,false,sv.out.ring,sv.out.cut⟩ })) (ls:=(ls.put k ⟨y4,sl.wait,sl.told⟩)) (ev:=ev) (k:=k) (u:=(Words.DH 32 (Words.Dx 32 y3))) c4 (show AO (AE.AZ { (AE.AZ V k { sv with Ax:=⟨sv.Ax.now,sv.Ax.long,sv.Ax.ret,y6⟩,out:=⟨sv.out.wait,0,false,sv.out.ring,sv.out.cut⟩ }) with w:=(AA.Ao V.w (Words.DH 32 (Words.Dx 32 y3))).1 } k { sv2 with state:=2,AV:=(AA.Ao V.w (Words.DH 32 (Words.Dx 32 y3))).2.1 }) ((ls.put k ⟨y4,sl.wait,sl.told⟩).put k ⟨sl2.queue,sl2.wait,sl2.told⟩) ev=({ (AO (AE.AZ V k { sv with Ax:=⟨sv.Ax.now,sv.Ax.long,sv.Ax.ret,y6⟩,out:=⟨sv.out.wait,0,false,sv.out.ring,sv.out.cut⟩ }) (ls.put k ⟨y4,sl.wait,sl.told⟩) ev) with w:=(AA.Ao V.w (Words.DH 32 (Words.Dx 32 y3))).1 }:AG).set k { AG.at_ (AO (AE.AZ V k { sv with Ax:=⟨sv.Ax.now,sv.Ax.long,sv.Ax.ret,y6⟩,out:=⟨sv.out.wait,0,false,sv.out.ring,sv.out.cut⟩ }) (ls.put k ⟨y4,sl.wait,sl.told⟩) ev) k with state:=2,AV:=(AA.Ao V.w (Words.DH 32 (Words.Dx 32 y3))).2.1 } from B4 (V:={ (AE.AZ V k { sv with Ax:=⟨sv.Ax.now,sv.Ax.long,sv.Ax.ret,y6⟩,out:=⟨sv.out.wait,0,false,sv.out.ring,sv.out.cut⟩ }) with w:=(AA.Ao V.w (Words.DH 32 (Words.Dx 32 y3))).1 }) hk.1 hk.2 hsv2 hlv2 (f:=fun x=>{ x with state:=2,AV:=(AA.Ao V.w (Words.DH 32 (Words.Dx 32 y3))).2.1 }) rfl) y17
    refine⟨_,⟨y14,y15,y16,J,?ga3,J⟩,hS⟩
    case ga3=>exact hE.trans ((congrArg (fun X=>AG.named X k _) hT.1).trans (hT.2.2.trans ((AB c2).trans (AN c3))).symm)
   refine W ?_
   refine⟨fun c5 c5p=>?_,fun c5 c5p=>?_⟩
   ·
    refine W ?_
    refine Cl (.c (.t (.t .h)) (.c (.t (.t .h)) (.c (.t (.t (.t (.t .h)))) .n))) (B5 _ (AE.AZ V k { sv with Ax:=⟨sv.Ax.now,sv.Ax.long,sv.Ax.ret,y6⟩,out:=⟨sv.out.wait,0,false,sv.out.ring,sv.out.cut⟩ }) (ls.put k ⟨y4,sl.wait,sl.told⟩) ev k _ hk (Nat.le_trans (htn k hk.1 hk.2) (by omega))) (fun v18 B hv=>?_)
    obtain⟨y19,y20,y21,rfl,y22,rfl⟩:=hv
    refine W ?_
    intro w1 hS
    have hS:=(hS.perm (AK.perm (.c .h (.c .h (.c .h .n))))).AM
    have hE:AO y19 y20 y21=AG.named (AO (AE.AZ V k { sv with Ax:=⟨sv.Ax.now,sv.Ax.long,sv.Ax.ret,y6⟩,out:=⟨sv.out.wait,0,false,sv.out.ring,sv.out.cut⟩ }) (ls.put k ⟨y4,sl.wait,sl.told⟩) ev) k (Words.DH 32 (Words.Dx 32 y3)):=Sh (V:=(AE.AZ V k { sv with Ax:=⟨sv.Ax.now,sv.Ax.long,sv.Ax.ret,y6⟩,out:=⟨sv.out.wait,0,false,sv.out.ring,sv.out.cut⟩ })) (ls:=(ls.put k ⟨y4,sl.wait,sl.told⟩)) (ev:=ev) (k:=k) (u:=(Words.DH 32 (Words.Dx 32 y3))) c4 c5 y22
    refine⟨_,⟨y19,y20,y21,J,?ga4,J⟩,hS⟩
    case ga4=>exact hE.trans ((congrArg (fun X=>AG.named X k _) hT.1).trans (hT.2.2.trans ((AB c2).trans (AN c3))).symm)
   refine W ?_
   refine Cl (.c (.t (.t .h)) (.c (.t (.t .h)) (.c (.t (.t (.t (.t .h)))) .n))) (B5 _ (AE.AZ V k { sv with Ax:=⟨sv.Ax.now,sv.Ax.long,sv.Ax.ret,y6⟩,out:=⟨sv.out.wait,0,false,sv.out.ring,sv.out.cut⟩ }) (ls.put k ⟨y4,sl.wait,sl.told⟩) ev k _ hk (Nat.le_trans (htn k hk.1 hk.2) (by omega))) (fun v23 B hv=>?_)
   obtain⟨y24,y25,y26,rfl,y27,rfl⟩:=hv
   refine W ?_
   intro w1 hS
   have hS:=(hS.perm (AK.perm (.c .h (.c .h (.c .h .n))))).AM
   have hE:AO y24 y25 y26=AG.named (AO (AE.AZ V k { sv with Ax:=⟨sv.Ax.now,sv.Ax.long,sv.Ax.ret,y6⟩,out:=⟨sv.out.wait,0,false,sv.out.ring,sv.out.cut⟩ }) (ls.put k ⟨y4,sl.wait,sl.told⟩) ev) k (Words.DH 32 (Words.Dx 32 y3)):=Sg (V:=(AE.AZ V k { sv with Ax:=⟨sv.Ax.now,sv.Ax.long,sv.Ax.ret,y6⟩,out:=⟨sv.out.wait,0,false,sv.out.ring,sv.out.cut⟩ })) (ls:=(ls.put k ⟨y4,sl.wait,sl.told⟩)) (ev:=ev) (k:=k) (u:=(Words.DH 32 (Words.Dx 32 y3))) c4 c5 y27
   refine⟨_,⟨y24,y25,y26,J,?ga5,J⟩,hS⟩
   case ga5=>exact hE.trans ((congrArg (fun X=>AG.named X k _) hT.1).trans (hT.2.2.trans ((AB c2).trans (AN c3))).symm)
  ·
   refine W ?_
   intro b3
   refine Cm .n (He V.w (Words.DH 32 (Words.Dx 32 y3)) hF.Fp.Gb (by omega)) (fun v28 B hv=>?_)
   obtain⟨y29,rfl,y30,rfl⟩:=hv
   refine W ?_
   refine⟨fun c6 c6p=>?_,fun c6 c6p=>?_⟩
   ·
    refine Ws 13 ?_
    refine By (.c (.t (.t .h)) (.c (.t (.t .h)) .n)) ?_
    refine Cj (k:=k) hk.1 hk.2 (fun sv2 sl2 hsv2 hlv2 hln2=>?_)
    refine Ws 14 ?_
    refine By (.c .h (.c .h (.c .h (.c .h (.c .h .n))))) ?_
    refine Ct hk.1 hk.2 (by rfl) (by rfl) (by rfl) ?_
    refine W ?_
    refine Cm (.c .h (.c .h (.c (.t (.t (.t (.t .h)))) (.c .h .n)))) (Bv _ (AE.AZ { (AE.AZ V k { sv with Ax:=⟨sv.Ax.now,sv.Ax.long,sv.Ax.ret,y6⟩,out:=⟨sv.out.wait,0,false,sv.out.ring,sv.out.cut⟩ }) with w:=(AA.Ao V.w (Words.DH 32 (Words.Dx 32 y3))).1 } k { sv2 with state:=2,AV:=(AA.Ao V.w (Words.DH 32 (Words.Dx 32 y3))).2.1 }) ((ls.put k ⟨y4,sl.wait,sl.told⟩).put k ⟨sl2.queue,sl2.wait,sl2.told⟩) ev _ (AA.Ao V.w (Words.DH 32 (Words.Dx 32 y3))).2.2.1 n (by assumption) (Cx (by rw [(show AO (AE.AZ { (AE.AZ V k { sv with Ax:=⟨sv.Ax.now,sv.Ax.long,sv.Ax.ret,y6⟩,out:=⟨sv.out.wait,0,false,sv.out.ring,sv.out.cut⟩ }) with w:=(AA.Ao V.w (Words.DH 32 (Words.Dx 32 y3))).1 } k { sv2 with state:=2,AV:=(AA.Ao V.w (Words.DH 32 (Words.Dx 32 y3))).2.1 }) ((ls.put k ⟨y4,sl.wait,sl.told⟩).put k ⟨sl2.queue,sl2.wait,sl2.told⟩) ev=({ (AO (AE.AZ V k { sv with Ax:=⟨sv.Ax.now,sv.Ax.long,sv.Ax.ret,y6⟩,out:=⟨sv.out.wait,0,false,sv.out.ring,sv.out.cut⟩ }) (ls.put k ⟨y4,sl.wait,sl.told⟩) ev) with w:=(AA.Ao V.w (Words.DH 32 (Words.Dx 32 y3))).1 }:AG).set k { AG.at_ (AO (AE.AZ V k { sv with Ax:=⟨sv.Ax.now,sv.Ax.long,sv.Ax.ret,y6⟩,out:=⟨sv.out.wait,0,false,sv.out.ring,sv.out.cut⟩ }) (ls.put k ⟨y4,sl.wait,sl.told⟩) ev) k with state:=2,AV:=(AA.Ao V.w (Words.DH 32 (Words.Dx 32 y3))).2.1 } from B4 (V:={ (AE.AZ V k { sv with Ax:=⟨sv.Ax.now,sv.Ax.long,sv.Ax.ret,y6⟩,out:=⟨sv.out.wait,0,false,sv.out.ring,sv.out.cut⟩ }) with w:=(AA.Ao V.w (Words.DH 32 (Words.Dx 32 y3))).1 }) hk.1 hk.2 hsv2 hlv2 (f:=fun x=>{ x with state:=2,AV:=(AA.Ao V.w (Words.DH 32 (Words.Dx 32 y3))).2.1 }) rfl)];exact hF3.enters hk.1 hk.2 (of_decide_eq_true c6))) (by omega) (Nat.le_trans hF.last (by omega)) hes.2) (fun v32 B hv=>?_)
    obtain⟨y33,y34,y35,rfl,y36,rfl⟩:=hv
    refine W ?_
    intro w1 hS
    have hS:=(hS.perm (AK.perm (.c .h (.c .h (.c .h .n))))).AM
    have hE:AO y33 y34 y35=AG.named (AO (AE.AZ V k { sv with Ax:=⟨sv.Ax.now,sv.Ax.long,sv.Ax.ret,y6⟩,out:=⟨sv.out.wait,0,false,sv.out.ring,sv.out.cut⟩ }) (ls.put k ⟨y4,sl.wait,sl.told⟩) ev) k (Words.DH 32 (Words.Dx 32 y3)):=Si (V:=(AE.AZ V k { sv with Ax:=⟨sv.Ax.now,sv.Ax.long,sv.Ax.ret,y6⟩,out:=⟨sv.out.wait,0,false,sv.out.ring,sv.out.cut⟩ })) (ls:=(ls.put k ⟨y4,sl.wait,sl.told⟩)) (ev:=ev) (k:=k) (u:=(Words.DH 32 (Words.Dx 32 y3))) c6 (show AO (AE.AZ { (AE.AZ V k { sv with Ax:=⟨sv.Ax.now,sv.Ax.long,sv.Ax.ret,y6⟩,out:=⟨sv.out.wait,0,false,sv.out.ring,sv.out.cut⟩ }) with w:=(AA.Ao V.w (Words.DH 32 (Words.Dx 32 y3))).1 } k { sv2 with state:=2,AV:=(AA.Ao V.w (Words.DH 32 (Words.Dx 32 y3))).2.1 }) ((ls.put k ⟨y4,sl.wait,sl.told⟩).put k ⟨sl2.queue,sl2.wait,sl2.told⟩) ev=({ (AO (AE.AZ V k { sv with Ax:=⟨sv.Ax.now,sv.Ax.long,sv.Ax.ret,y6⟩,out:=⟨sv.out.wait,0,false,sv.out.ring,sv.out.cut⟩ }) (ls.put k ⟨y4,sl.wait,sl.told⟩) ev) with w:=(AA.Ao V.w (Words.DH 32 (Words.Dx 32 y3))).1 }:AG).set k { AG.at_ (AO (AE.AZ V k { sv with Ax:=⟨sv.Ax.now,sv.Ax.long,sv.Ax.ret,y6⟩,out:=⟨sv.out.wait,0,false,sv.out.ring,sv.out.cut⟩ }) (ls.put k ⟨y4,sl.wait,sl.told⟩) ev) k with state:=2,AV:=(AA.Ao V.w (Words.DH 32 (Words.Dx 32 y3))).2.1 } from B4 (V:={ (AE.AZ V k { sv with Ax:=⟨sv.Ax.now,sv.Ax.long,sv.Ax.ret,y6⟩,out:=⟨sv.out.wait,0,false,sv.out.ring,sv.out.cut⟩ }) with w:=(AA.Ao V.w (Words.DH 32 (Words.Dx 32 y3))).1 }) hk.1 hk.2 hsv2 hlv2 (f:=fun x=>{ x with state:=2,AV:=(AA.Ao V.w (Words.DH 32 (Words.Dx 32 y3))).2.1 }) rfl) y36
    refine⟨_,⟨y33,y34,y35,J,?ga6,J⟩,hS⟩
    case ga6=>exact hE.trans ((congrArg (fun X=>AG.named X k _) hT.1).trans (hT.2.2.trans ((AB c2).trans (AN c3))).symm)
   refine W ?_
   refine⟨fun c7 c7p=>?_,fun c7 c7p=>?_⟩
   ·
    refine W ?_
    refine Cl (.c (.t (.t .h)) (.c (.t (.t .h)) (.c (.t (.t (.t (.t .h)))) .n))) (B5 _ (AE.AZ V k { sv with Ax:=⟨sv.Ax.now,sv.Ax.long,sv.Ax.ret,y6⟩,out:=⟨sv.out.wait,0,false,sv.out.ring,sv.out.cut⟩ }) (ls.put k ⟨y4,sl.wait,sl.told⟩) ev k _ hk (Nat.le_trans (htn k hk.1 hk.2) (by omega))) (fun v37 B hv=>?_)
    obtain⟨y38,y39,y40,rfl,y41,rfl⟩:=hv
    refine W ?_
    intro w1 hS
    have hS:=(hS.perm (AK.perm (.c .h (.c .h (.c .h .n))))).AM
    have hE:AO y38 y39 y40=AG.named (AO (AE.AZ V k { sv with Ax:=⟨sv.Ax.now,sv.Ax.long,sv.Ax.ret,y6⟩,out:=⟨sv.out.wait,0,false,sv.out.ring,sv.out.cut⟩ }) (ls.put k ⟨y4,sl.wait,sl.told⟩) ev) k (Words.DH 32 (Words.Dx 32 y3)):=Sh (V:=(AE.AZ V k { sv with Ax:=⟨sv.Ax.now,sv.Ax.long,sv.Ax.ret,y6⟩,out:=⟨sv.out.wait,0,false,sv.out.ring,sv.out.cut⟩ })) (ls:=(ls.put k ⟨y4,sl.wait,sl.told⟩)) (ev:=ev) (k:=k) (u:=(Words.DH 32 (Words.Dx 32 y3))) c6 c7 y41
    refine⟨_,⟨y38,y39,y40,J,?ga7,J⟩,hS⟩
    case ga7=>exact hE.trans ((congrArg (fun X=>AG.named X k _) hT.1).trans (hT.2.2.trans ((AB c2).trans (AN c3))).symm)
   refine W ?_
   refine Cl (.c (.t (.t .h)) (.c (.t (.t .h)) (.c (.t (.t (.t (.t .h)))) .n))) (B5 _ (AE.AZ V k { sv with Ax:=⟨sv.Ax.now,sv.Ax.long,sv.Ax.ret,y6⟩,out:=⟨sv.out.wait,0,false,sv.out.ring,sv.out.cut⟩ }) (ls.put k ⟨y4,sl.wait,sl.told⟩) ev k _ hk (Nat.le_trans (htn k hk.1 hk.2) (by omega))) (fun v42 B hv=>?_)
   obtain⟨y43,y44,y45,rfl,y46,rfl⟩:=hv
   refine W ?_
   intro w1 hS
   have hS:=(hS.perm (AK.perm (.c .h (.c .h (.c .h .n))))).AM
   have hE:AO y43 y44 y45=AG.named (AO (AE.AZ V k { sv with Ax:=⟨sv.Ax.now,sv.Ax.long,sv.Ax.ret,y6⟩,out:=⟨sv.out.wait,0,false,sv.out.ring,sv.out.cut⟩ }) (ls.put k ⟨y4,sl.wait,sl.told⟩) ev) k (Words.DH 32 (Words.Dx 32 y3)):=Sg (V:=(AE.AZ V k { sv with Ax:=⟨sv.Ax.now,sv.Ax.long,sv.Ax.ret,y6⟩,out:=⟨sv.out.wait,0,false,sv.out.ring,sv.out.cut⟩ })) (ls:=(ls.put k ⟨y4,sl.wait,sl.told⟩)) (ev:=ev) (k:=k) (u:=(Words.DH 32 (Words.Dx 32 y3))) c6 c7 y46
   refine⟨_,⟨y43,y44,y45,J,?ga8,J⟩,hS⟩
   case ga8=>exact hE.trans ((congrArg (fun X=>AG.named X k _) hT.1).trans (hT.2.2.trans ((AB c2).trans (AN c3))).symm)
 refine Ws 17 ?_
 refine By (.c (.t .h) (.c (.t (.t .h)) (.c (.t (.t .h)) (.c (.t (.t .h)) (.c (.t (.t .h)) .n))))) ?_
 refine Ct hk.1 hk.2 (by rfl) (by rfl) (by rfl) ?_
 have hT:=(CV (ev:=ev) hk.1 hk.2 hsv hlv y5 (Sy hsv c1) y6)
 have hF3:(AO (AE.AZ V k { sv with Ax:=⟨sv.Ax.now,sv.Ax.long,sv.Ax.ret,y6⟩,out:=⟨sv.out.wait,0,false,sv.out.ring,sv.out.cut⟩ }) (ls.put k ⟨y4,sl.wait,sl.told⟩) ev).Fit n m:=by rw [hT.1];exact hF.Ev hk.1 hk.2 hT.2.1
 have hql:y3.length≤1000:=by have h:=(hF.queue k hk.1 hk.2).2 y3 (by rw [hT.2.1];exact List.mem_cons_self ..);omega
 have htn:=Cx hF3
 have hps:=Words.KU y3
 have hdl:=AA.Kp V.w (((AE.AZ V k { sv with Ax:=⟨sv.Ax.now,sv.Ax.long,sv.Ax.ret,y6⟩,out:=⟨sv.out.wait,0,false,sv.out.ring,sv.out.cut⟩ })).AP.at k).AV (Words.parse y3).1
 have hds:=AA.Kq (b:=(((AE.AZ V k { sv with Ax:=⟨sv.Ax.now,sv.Ax.long,sv.Ax.ret,y6⟩,out:=⟨sv.out.wait,0,false,sv.out.ring,sv.out.cut⟩ })).AP.at k).AV) (o:=(Words.parse y3).1) hF.Fp (by have:=hps.2.2;omega)
 refine W ?_
 intro b4
 refine⟨fun c8 c8p=>?_,fun c8 c8p=>?_⟩
 ·
  refine W ?_
  refine Cl (.c (.t .h) (.c (.t .h) (.c (.t (.t (.t .h))) .n))) (B5 _ (AE.AZ V k { sv with Ax:=⟨sv.Ax.now,sv.Ax.long,sv.Ax.ret,y6⟩,out:=⟨sv.out.wait,0,false,sv.out.ring,sv.out.cut⟩ }) (ls.put k ⟨y4,sl.wait,sl.told⟩) ev k _ hk (Nat.le_trans (htn k hk.1 hk.2) (by omega))) (fun v47 B hv=>?_)
  obtain⟨y48,y49,y50,rfl,y51,rfl⟩:=hv
  refine W ?_
  intro w1 hS
  have hS:=(hS.perm (AK.perm (.c .h (.c .h (.c .h .n))))).AM
  have hE:AO y48 y49 y50=AG.order (AO (AE.AZ V k { sv with Ax:=⟨sv.Ax.now,sv.Ax.long,sv.Ax.ret,y6⟩,out:=⟨sv.out.wait,0,false,sv.out.ring,sv.out.cut⟩ }) (ls.put k ⟨y4,sl.wait,sl.told⟩) ev) k y3:=y51.trans (if_pos c8).symm
  refine⟨_,⟨y48,y49,y50,J,?ga9,J⟩,hS⟩
  case ga9=>exact hE.trans ((congrArg (fun X=>AG.order X k _) hT.1).trans (hT.2.2.trans ((AB c2).trans (AB c3))).symm)
 refine W ?_
 refine⟨fun c9 c9p=>?_,fun c9 c9p=>?_⟩
 ·
  refine W ?_
  refine Cm (.c (.t .h) (.c (.t .h) (.c (.t (.t (.t .h))) .n))) (Es _ (AE.AZ V k { sv with Ax:=⟨sv.Ax.now,sv.Ax.long,sv.Ax.ret,y6⟩,out:=⟨sv.out.wait,0,false,sv.out.ring,sv.out.cut⟩ }) (ls.put k ⟨y4,sl.wait,sl.told⟩) ev k n m hk hF3 hn hm) (fun v52 B hv=>?_)
  obtain⟨y53,y54,y55,rfl,y56,rfl⟩:=hv
  refine W ?_
  intro w1 hS
  have hS:=(hS.perm (AK.perm (.c .h (.c .h (.c .h .n))))).AM
  have hE:AO y53 y54 y55=AG.order (AO (AE.AZ V k { sv with Ax:=⟨sv.Ax.now,sv.Ax.long,sv.Ax.ret,y6⟩,out:=⟨sv.out.wait,0,false,sv.out.ring,sv.out.cut⟩ }) (ls.put k ⟨y4,sl.wait,sl.told⟩) ev) k y3:=y56.trans ((AB c8).trans (AN c9)).symm
  refine⟨_,⟨y53,y54,y55,J,?ga10,J⟩,hS⟩
  case ga10=>exact hE.trans ((congrArg (fun X=>AG.order X k _) hT.1).trans (hT.2.2.trans ((AB c2).trans (AB c3))).symm)
 refine W ?_
 refine Ey 9 14 J J (by kernel_rfl) ?_ ?_
 ·
  refine W ?_
  refine Cm .n (HM V.w (((AE.AZ V k { sv with Ax:=⟨sv.Ax.now,sv.Ax.long,sv.Ax.ret,y6⟩,out:=⟨sv.out.wait,0,false,sv.out.ring,sv.out.cut⟩ })).AP.at k).AV (Words.parse y3).1 hF.Fp.Gb (by have:=hps.2.1;omega) (by have:=hps.1;omega) (Words.RN y3)) (fun v57 B hv=>?_)
  obtain⟨y58,rfl,y59,rfl⟩:=hv
  refine W ?_
  intro b5
  refine Cm (.c (.t (.t (.t .h))) (.c (.t (.t (.t .h))) (.c (.t (.t (.t (.t (.t .h))))) (.c (.t .h) .n)))) (Bv _ { (AE.AZ V k { sv with Ax:=⟨sv.Ax.now,sv.Ax.long,sv.Ax.ret,y6⟩,out:=⟨sv.out.wait,0,false,sv.out.ring,sv.out.cut⟩ }) with w:=(AA.Dk V.w (((AE.AZ V k { sv with Ax:=⟨sv.Ax.now,sv.Ax.long,sv.Ax.ret,y6⟩,out:=⟨sv.out.wait,0,false,sv.out.ring,sv.out.cut⟩ })).AP.at k).AV (Words.parse y3).1).1 } (ls.put k ⟨y4,sl.wait,sl.told⟩) ev _ (AA.Dk V.w (((AE.AZ V k { sv with Ax:=⟨sv.Ax.now,sv.Ax.long,sv.Ax.ret,y6⟩,out:=⟨sv.out.wait,0,false,sv.out.ring,sv.out.cut⟩ })).AP.at k).AV (Words.parse y3).1).2.1 n (by assumption) htn (by omega) (Nat.le_trans hF.last (by omega)) hds.2) (fun v61 B hv=>?_)
  obtain⟨y62,y63,y64,rfl,y65,rfl⟩:=hv
  refine W ?_
  intro w1 hS
  have hS:=(hS.perm (AK.perm (.c .h (.c .h (.c .h .n))))).AM
  have hE:AO y62 y63 y64=AG.order (AO (AE.AZ V k { sv with Ax:=⟨sv.Ax.now,sv.Ax.long,sv.Ax.ret,y6⟩,out:=⟨sv.out.wait,0,false,sv.out.ring,sv.out.cut⟩ }) (ls.put k ⟨y4,sl.wait,sl.told⟩) ev) k y3:=OR (V:=(AE.AZ V k { sv with Ax:=⟨sv.Ax.now,sv.Ax.long,sv.Ax.ret,y6⟩,out:=⟨sv.out.wait,0,false,sv.out.ring,sv.out.cut⟩ })) (ls:=(ls.put k ⟨y4,sl.wait,sl.told⟩)) (ev:=ev) (k:=k) (u:=y3) hk.1 hk.2 c8 c9 y65
  refine⟨_,⟨y62,y63,y64,J,?ga11,J⟩,hS⟩
  case ga11=>exact hE.trans ((congrArg (fun X=>AG.order X k _) hT.1).trans (hT.2.2.trans ((AB c2).trans (AB c3))).symm)
 ·
  refine W ?_
  intro b6
  refine Cm .n (HM V.w (((AE.AZ V k { sv with Ax:=⟨sv.Ax.now,sv.Ax.long,sv.Ax.ret,y6⟩,out:=⟨sv.out.wait,0,false,sv.out.ring,sv.out.cut⟩ })).AP.at k).AV (Words.parse y3).1 hF.Fp.Gb (by have:=hps.2.1;omega) (by have:=hps.1;omega) (Words.RN y3)) (fun v66 B hv=>?_)
  obtain⟨y67,rfl,y68,rfl⟩:=hv
  refine W ?_
  refine Cm (.c (.t (.t (.t .h))) (.c (.t (.t (.t .h))) (.c (.t (.t (.t (.t (.t .h))))) (.c .h .n)))) (Bv _ { (AE.AZ V k { sv with Ax:=⟨sv.Ax.now,sv.Ax.long,sv.Ax.ret,y6⟩,out:=⟨sv.out.wait,0,false,sv.out.ring,sv.out.cut⟩ }) with w:=(AA.Dk V.w (((AE.AZ V k { sv with Ax:=⟨sv.Ax.now,sv.Ax.long,sv.Ax.ret,y6⟩,out:=⟨sv.out.wait,0,false,sv.out.ring,sv.out.cut⟩ })).AP.at k).AV (Words.parse y3).1).1 } (ls.put k ⟨y4,sl.wait,sl.told⟩) ev _ (AA.Dk V.w (((AE.AZ V k { sv with Ax:=⟨sv.Ax.now,sv.Ax.long,sv.Ax.ret,y6⟩,out:=⟨sv.out.wait,0,false,sv.out.ring,sv.out.cut⟩ })).AP.at k).AV (Words.parse y3).1).2.1 n (by assumption) htn (by omega) (Nat.le_trans hF.last (by omega)) hds.2) (fun v70 B hv=>?_)
  obtain⟨y71,y72,y73,rfl,y74,rfl⟩:=hv
  refine W ?_
  intro w1 hS
  have hS:=(hS.perm (AK.perm (.c .h (.c .h (.c .h .n))))).AM
  have hE:AO y71 y72 y73=AG.order (AO (AE.AZ V k { sv with Ax:=⟨sv.Ax.now,sv.Ax.long,sv.Ax.ret,y6⟩,out:=⟨sv.out.wait,0,false,sv.out.ring,sv.out.cut⟩ }) (ls.put k ⟨y4,sl.wait,sl.told⟩) ev) k y3:=OR (V:=(AE.AZ V k { sv with Ax:=⟨sv.Ax.now,sv.Ax.long,sv.Ax.ret,y6⟩,out:=⟨sv.out.wait,0,false,sv.out.ring,sv.out.cut⟩ })) (ls:=(ls.put k ⟨y4,sl.wait,sl.told⟩)) (ev:=ev) (k:=k) (u:=y3) hk.1 hk.2 c8 c9 y74
  refine⟨_,⟨y71,y72,y73,J,?ga12,J⟩,hS⟩
  case ga12=>exact hE.trans ((congrArg (fun X=>AG.order X k _) hT.1).trans (hT.2.2.trans ((AB c2).trans (AB c3))).symm)
theorem I5 (X:AD)(d:Int)(hw:X.Cs):Cz Tryz.prog 23 #[.agg X.enc.toArray, .int .i64 d] [] (fun w=>(GV 0 AD.Be w∧0 ∉ BV [])) (fun v B=>∃ h:Hd,v = .tuple #[.agg ((AA.BX X d).1.enc).toArray,h.val, .int .i64 (AA.BX X d).2.2]∧h.len=(AA.BX X d).2.1.length∧B = [AJ.own h 100 16 ((AA.BX X d).2.1.flatMap Ing.Event.enc)]):=by
 intro w hS0 hH
 obtain⟨gl0,gm0⟩:=hH
 have hm:=Cq d
 refine AR _ _ Tryz.func23 J J J (hS0) ?_
 refine W ?_
 intro b1 b2
 refine⟨fun c1 c1p=>?_,fun c1 c1p=>?_⟩
 ·
  try dsimp only at c1p
  rw [AD.Cd] at c1
  refine W ?_
  intro w1 hS
  have hS:=hS.BT 100 16
  have hS:=(hS.perm (AK.perm (.c .h .n))).AM
  have hq:AA.BX X d=_:=AN c1
  refine⟨_,⟨⟨none,0,0⟩,?g9v,?g9l,?g9B⟩,hS⟩
  case g9v=>rw [hq];rfl
  case g9l=>rw [hq];rfl
  case g9B=>rw [hq];rfl
 try dsimp only at c1p
 rw [AD.Cd] at c1
 refine Ws 4 ?_
 intro b3
 refine CG Ing.Event.enc 100 16 ?_
 refine W ?_
 refine Af (.t4 19 1 4 7) ?_
 refine AY (.t .h) ?_
 refine AY (.t .h) ?_
 refine J9 (fun(k:Int) (w:AD) (o:List Ing.Event) (q:Int) (h:Hd)=>0≤k∧k≤6∧AA.DG X d k.toNat=(w,o)∧w.A5=true∧w.Cs∧(o.length:Int)≤13 * k∧h.len=o.length∧0≤q∧q < 6) (fun(k:Int) (w:AD) (o:List Ing.Event) (q:Int) (h:Hd)=>(6 - k).toNat) (fun(k:Int) (w:AD) (o:List Ing.Event) (q:Int) (h:Hd)=> [(19, .int .i64 k)]) (fun(k:Int) (w:AD) (o:List Ing.Event) (q:Int) (h:Hd)=> [AJ.own h 100 16 (o.flatMap Ing.Event.enc),AJ.box b3 115 (Ab.enc ⟨w,q,h⟩)]) (0) (X) ([]) (0) (_) ?_ J J (fun k w o q h hI1=>?_)
 · exact⟨by omega,by omega,rfl,by simpa using c1,hw,by simp,rfl,by omega,by omega⟩
 obtain⟨hI11,hI12,hI13,hI14,hI15,hI16,hI17,hI18⟩:=hI1
 refine W ?_
 refine⟨fun c2 c2p=>?_,fun c2 c2p=>?_⟩
 ·
  try dsimp only at c2p
  have hbe:=AA.GN hI14 hI11 (show k < 6 by omega)
  have hfo:=hbe.A2
  try have:=Cq (d.tmod 3+3)
  try have:=Cq ((d.tmod 3+3).tmod 3+k)
  refine W ?_
  intro b4
  refine⟨fun c3 c3p=>?_,fun c3 c3p=>?_⟩
  ·
   try dsimp only at c3p
   have hce:(!(w.AF.at k).here || decide ((w.AF.at k).A2=0))=true:=by rw [show decide ((w.AF.at k).A2=0)=true from c3];simp
   try have:=Cq (d.tmod 3+3)
   try have:=Cq ((d.tmod 3+3).tmod 3+k)
   refine W ?_
   refine C7 (k+1) _ _ _ _ ?_ ?_ (.t4 19 1 4 7) (.cons _ (.refl _))
   · have hrg:=AA.C6 (s:=(w,o)) (draw:=d) hI14 hI15 hI11 (by omega)
     have hrs:AA.DW d k (w,o)=(w,o):=AN hce
     rw [hrs] at hrg
     exact⟨by omega,by omega,by rw [AA.DO hI11,hI13,hrs];(try rfl),hrg.1,hrg.2.1,(by have hz:_≤(w,o).2.length+13:=hrg.2.2;have hz2:(w,o).2.length=o.length:=rfl;(try dsimp only at *);omega),by assumption,hI18⟩
   · omega
  try dsimp only at c3p
  have hce:(!(w.AF.at k).here || decide ((w.AF.at k).A2=0))=false:=by rw [AA.cq hbe c3p,show decide ((w.AF.at k).A2=0)=false from c3];rfl
  have hf0:0≤((w.AF.at k).A2 - 1)∧((w.AF.at k).A2 - 1) < 6:=by omega
  have hbf:=(AA.GN hI14 hf0.1 hf0.2).AW
  try have:=Cq (d.tmod 3+3)
  try have:=Cq ((d.tmod 3+3).tmod 3+k)
  refine W ?_
  refine⟨fun c4 c4p=>?_,fun c4 c4p=>?_⟩
  ·
   try dsimp only at c4p
   have hc4:(!(w.AF.at ((w.AF.at k).A2 - 1)).here || !decide ((w.AF.at ((w.AF.at k).A2 - 1)).room=(w.AF.at k).room))=true:=by rw [← AA.La hf0.1 hf0.2];exact c4
   try have:=Cq (d.tmod 3+3)
   try have:=Cq ((d.tmod 3+3).tmod 3+k)
   refine W ?_
   refine C7 (k+1) _ _ _ _ ?_ ?_ (.t4 19 1 4 7) (.cons _ (.refl _))
   · have hrg:=AA.C6 (s:=(w,o)) (draw:=d) hI14 hI15 hI11 (by omega)
     have hrs:AA.DW d k (w,o)=_:=(AB hce).trans (AN hc4)
     rw [hrs] at hrg
     exact⟨by omega,by omega,by rw [AA.DO hI11,hI13,hrs];(try rfl),hrg.1,hrg.2.1,(by have hz:_≤(w,o).2.length+13:=hrg.2.2;have hz2:(w,o).2.length=o.length:=rfl;(try dsimp only at *);omega),by assumption,hI18⟩
   · omega
  try dsimp only at c4p
  have hc4:(!(w.AF.at ((w.AF.at k).A2 - 1)).here || !decide ((w.AF.at ((w.AF.at k).A2 - 1)).room=(w.AF.at k).room))=false:=by rw [← AA.La hf0.1 hf0.2];exact c4
  have hhe:(w.AF.at ((w.AF.at k).A2 - 1)).here=true:=by have:=c4;rw [AA.La hf0.1 hf0.2] at this;simp only [kA,lK] at this;exact this.1
  have hsf:=AA.Jk (b:=k) (n:=AA.hit d k) hI14 hI15 (A2:=((w.AF.at k).A2 - 1)) hf0.1 hf0.2 hhe
  have hht:=AA.MQ (draw:=d) hI11
  refine Ws 12 ?_
  have hhq:=(AA.Vq (d:=d) hI11 (show k < 6 by omega)).2
  refine W ?_
  refine Im (cs:=BO (n:=3) AT (Vector.replicate 3 default)) (cs':=(([1,2,3]:List Int).flatMap AT)) J Tryz.underlying117 ba bc (by decide) (by decide) (by kernel_rfl) (.cons (Ac.arr (n:=3) (i:=0) Bm (by decide) (by decide)) J J J (.cons (Ac.arr (n:=3) (i:=1) Bm (by decide) (by decide)) J J J (.cons (Ac.arr (n:=3) (i:=2) Bm (by decide) (by decide)) J J J .nil))) J (fun b5=>?_)
  try have:=Cq (d.tmod 3+3)
  try have:=Cq ((d.tmod 3+3).tmod 3+k)
  try have:=(AA.Vq (d:=d) hI11 (show k < 6 by omega)).2
  refine Ws 13 ?_
  rw [(AA.Vq (d:=d) hI11 (show k < 6 by omega)).1]
  refine W ?_
  refine Cl (.c (.t (.t (.t .h))) (.c (.t (.t .h)) .n)) (BI _ (⟨w,k,o⟩:AA) _ 14 ((w.AF.at k).A2 - 1) 0 (AA.hit d k) [] [] (by assumption) (show 0≤k∧k < 6 by omega) (show((w.AF.at k).A2 - 1) < 6 by omega) (show o.length≤100000 by omega)) (fun v2 B hv=>?_)
  obtain⟨y3,rfl,y4,rfl⟩:=hv
  refine Ws 15 ?_
  refine CY (c':=Ab.enc ⟨w,k,y3⟩) (fun _=> .h) J ?_
  try have:=Cq (d.tmod 3+3)
  try have:=Cq ((d.tmod 3+3).tmod 3+k)
  refine W ?_
  refine⟨fun c5 c5p=>?_,fun c5 c5p=>?_⟩
  ·
   try dsimp only at c5p
   try have:=Cq (d.tmod 3+3)
   try have:=Cq ((d.tmod 3+3).tmod 3+k)
   refine W ?_
   refine Ar (.c (.t .h) (.c .h (.c (.t (.t .h)) (.c (.t (.t .h)) .n)))) ?_
   refine Az ?_
   refine C7 (k+1) _ _ _ _ ?_ ?_ (.t4 19 1 4 7) (.refl _)
   · have hrg:=AA.C6 (s:=(w,o)) (draw:=d) hI14 hI15 hI11 (by omega)
     have hc5:decide (((AA.Aq w k ((w.AF.at k).A2 - 1) (AA.hit d k)).w.AF.at ((w.AF.at k).A2 - 1)).AW=0)=false:=by rw [AA.NV hf0.1 hf0.2];exact decide_eq_false (by omega)
     have hrs:AA.DW d k (w,o)=((AA.Aq w k ((w.AF.at k).A2 - 1) (AA.hit d k)).w,o++(AA.Aq w k ((w.AF.at k).A2 - 1) (AA.hit d k)).out):=(AB hce).trans ((AB hc4).trans (AB hc5))
     rw [AA.Yg (by omega)] at hrs
     rw [hrs] at hrg
     exact⟨by omega,by omega,by rw [AA.DO hI11,hI13,hrs];(try rfl),hrg.1,hrg.2.1,(by have hz:((o++(AA.Aq w k ((w.AF.at k).A2 - 1) (AA.hit d k)).out)).length≤(w,o).2.length+13:=hrg.2.2;have hz2:(w,o).2.length=o.length:=rfl;show((((o++(AA.Aq w k ((w.AF.at k).A2 - 1) (AA.hit d k)).out)).length:Nat):Int)≤_;omega),by assumption,(show 0≤k∧k < 6 by omega)⟩
   · omega
  try dsimp only at c5p
  try have:=Cq (d.tmod 3+3)
  try have:=Cq ((d.tmod 3+3).tmod 3+k)
  refine W ?_
  refine Cl (.c .h (.c .h .n)) (BI _ (⟨w.Bb ((w.AF.at k).A2 - 1) { w.AF.at ((w.AF.at k).A2 - 1) with AW:=1 },((w.AF.at k).A2 - 1),(o++(AA.Aq w k ((w.AF.at k).A2 - 1) (AA.hit d k)).out)⟩:AA) _ 15 (-1) 0 0 [] [] y4 (show 0≤((w.AF.at k).A2 - 1)∧((w.AF.at k).A2 - 1) < 6 from hf0) (show(-1:Int) < 6 by decide) (show(o++(AA.Aq w k ((w.AF.at k).A2 - 1) (AA.hit d k)).out).length≤100000 by rw [List.length_append];exact(by omega:o.length+1≤100000))) (fun v5 B hv=>?_)
  obtain⟨y6,rfl,y7,rfl⟩:=hv
  refine W ?_
  refine Cl (.c .h .n) (Iu _ (AA.kind (⟨w.Bb ((w.AF.at k).A2 - 1) { w.AF.at ((w.AF.at k).A2 - 1) with AW:=1 },((w.AF.at k).A2 - 1),(o++(AA.Aq w k ((w.AF.at k).A2 - 1) (AA.hit d k)).out)⟩:AA) 15) _ ((hsf.Fc (T':=(⟨w.Bb ((w.AF.at k).A2 - 1) { w.AF.at ((w.AF.at k).A2 - 1) with AW:=1 },((w.AF.at k).A2 - 1),(o++(AA.Aq w k ((w.AF.at k).A2 - 1) (AA.hit d k)).out)⟩:AA)) (by rw [AA.Vc hf0.1 hf0.2]) (by rw [AA.Vc hf0.1 hf0.2])).Fc J J)) (fun v8 B hv=>?_)
  obtain⟨y9,y10,rfl,rfl⟩:=hv
  refine W ?_
  refine⟨fun c6 c6p=>?_,fun c6 c6p=>?_⟩
  ·
   try dsimp only at c6p
   try have:=Cq (d.tmod 3+3)
   try have:=Cq ((d.tmod 3+3).tmod 3+k)
   refine W ?_
   refine Ar (.c (.t .h) (.c .h (.c (.t (.t .h)) (.c (.t (.t .h)) .n)))) ?_
   refine Az ?_
   refine C7 (k+1) _ _ _ _ ?_ ?_ (.t4 19 1 4 7) (.refl _)
   · have hrg:=AA.C6 (s:=(w,o)) (draw:=d) hI14 hI15 hI11 (by omega)
     have hc5:decide (((AA.Aq w k ((w.AF.at k).A2 - 1) (AA.hit d k)).w.AF.at ((w.AF.at k).A2 - 1)).AW=0)=true:=by rw [AA.NV hf0.1 hf0.2];exact decide_eq_true (by omega)
     have hrs:AA.DW d k (w,o)=((AA.FV (AA.Aq w k ((w.AF.at k).A2 - 1) (AA.hit d k)).w ((w.AF.at k).A2 - 1)).w,(o++(AA.Aq w k ((w.AF.at k).A2 - 1) (AA.hit d k)).out)++(AA.FV (AA.Aq w k ((w.AF.at k).A2 - 1) (AA.hit d k)).w ((w.AF.at k).A2 - 1)).out):=(AB hce).trans ((AB hc4).trans (AN hc5))
     rw [AA.Ua hf0.1 hf0.2 c6 y10] at hrs
     rw [hrs] at hrg
     exact⟨by omega,by omega,by rw [AA.DO hI11,hI13,hrs];(try rfl),hrg.1,hrg.2.1,(by have hz:((AA.kind (⟨w.Bb ((w.AF.at k).A2 - 1) { w.AF.at ((w.AF.at k).A2 - 1) with AW:=1 },((w.AF.at k).A2 - 1),(o++(AA.Aq w k ((w.AF.at k).A2 - 1) (AA.hit d k)).out)⟩:AA) 15).out).length≤(w,o).2.length+13:=hrg.2.2;have hz2:(w,o).2.length=o.length:=rfl;show((((AA.kind (⟨w.Bb ((w.AF.at k).A2 - 1) { w.AF.at ((w.AF.at k).A2 - 1) with AW:=1 },((w.AF.at k).A2 - 1),(o++(AA.Aq w k ((w.AF.at k).A2 - 1) (AA.hit d k)).out)⟩:AA) 15).out).length:Nat):Int)≤_;omega),by assumption,hf0⟩
   · omega
  try dsimp only at c6p
  try have:=Cq (d.tmod 3+3)
  try have:=Cq ((d.tmod 3+3).tmod 3+k)
  refine Ws 24 ?_
  refine CY (fun _=> .h) (congrArg (fun q=>Ab.enc ⟨q,((w.AF.at k).A2 - 1),_⟩) (AA.XG y9 hf0)) ?_
  refine W ?_
  refine Cl (.c .h (.c .h .n)) (BI _ (⟨y9.Bb ((w.AF.at k).A2 - 1) { y9.AF.at ((w.AF.at k).A2 - 1) with room:=0,AW:=10 },((w.AF.at k).A2 - 1),(AA.kind (⟨w.Bb ((w.AF.at k).A2 - 1) { w.AF.at ((w.AF.at k).A2 - 1) with AW:=1 },((w.AF.at k).A2 - 1),(o++(AA.Aq w k ((w.AF.at k).A2 - 1) (AA.hit d k)).out)⟩:AA) 15).out⟩:AA) _ 17 (-1) 0 0 [] [] y7 (show 0≤((w.AF.at k).A2 - 1)∧((w.AF.at k).A2 - 1) < 6 from hf0) (show(-1:Int) < 6 by decide) (by rw [show(AA.out (⟨y9.Bb ((w.AF.at k).A2 - 1) { y9.AF.at ((w.AF.at k).A2 - 1) with room:=0,AW:=10 },((w.AF.at k).A2 - 1),(AA.kind (⟨w.Bb ((w.AF.at k).A2 - 1) { w.AF.at ((w.AF.at k).A2 - 1) with AW:=1 },((w.AF.at k).A2 - 1),(o++(AA.Aq w k ((w.AF.at k).A2 - 1) (AA.hit d k)).out)⟩:AA) 15).out⟩:AA)).length=((o++(AA.Aq w k ((w.AF.at k).A2 - 1) (AA.hit d k)).out).length+1) from AA.HW _ _,List.length_append];exact(by omega:o.length+1+1≤100000))) (fun v11 B hv=>?_)
  obtain⟨y12,rfl,y13,rfl⟩:=hv
  refine W ?_
  refine Cm (.c .h (.c .h .n)) (FZ _ (AA.kind (⟨y9.Bb ((w.AF.at k).A2 - 1) { y9.AF.at ((w.AF.at k).A2 - 1) with room:=0,AW:=10 },((w.AF.at k).A2 - 1),(AA.kind (⟨w.Bb ((w.AF.at k).A2 - 1) { w.AF.at ((w.AF.at k).A2 - 1) with AW:=1 },((w.AF.at k).A2 - 1),(o++(AA.Aq w k ((w.AF.at k).A2 - 1) (AA.hit d k)).out)⟩:AA) 15).out⟩:AA) 17) _ y13 ((AA.aQ hf0.1 hf0.2 hsf y10 _).Fc J J) (by rw [AA.HW,show(AA.out (⟨y9.Bb ((w.AF.at k).A2 - 1) { y9.AF.at ((w.AF.at k).A2 - 1) with room:=0,AW:=10 },((w.AF.at k).A2 - 1),(AA.kind (⟨w.Bb ((w.AF.at k).A2 - 1) { w.AF.at ((w.AF.at k).A2 - 1) with AW:=1 },((w.AF.at k).A2 - 1),(o++(AA.Aq w k ((w.AF.at k).A2 - 1) (AA.hit d k)).out)⟩:AA) 15).out⟩:AA)).length=((o++(AA.Aq w k ((w.AF.at k).A2 - 1) (AA.hit d k)).out).length+1) from AA.HW _ _,List.length_append];exact(by omega:o.length+1+1+1≤90000))) (fun v14 B hv=>?_)
  obtain⟨y15,rfl,y16,rfl⟩:=hv
  try have:=Cq (d.tmod 3+3)
  try have:=Cq ((d.tmod 3+3).tmod 3+k)
  refine W ?_
  refine Ar (.c (.t .h) (.c .h (.c (.t (.t .h)) (.c (.t (.t .h)) .n)))) ?_
  refine Az ?_
  refine C7 (k+1) _ _ _ _ ?_ ?_ (.t4 19 1 4 7) (.refl _)
  · have hrg:=AA.C6 (s:=(w,o)) (draw:=d) hI14 hI15 hI11 (by omega)
    have hc5:decide (((AA.Aq w k ((w.AF.at k).A2 - 1) (AA.hit d k)).w.AF.at ((w.AF.at k).A2 - 1)).AW=0)=true:=by rw [AA.NV hf0.1 hf0.2];exact decide_eq_true (by omega)
    have hrs:AA.DW d k (w,o)=((AA.FV (AA.Aq w k ((w.AF.at k).A2 - 1) (AA.hit d k)).w ((w.AF.at k).A2 - 1)).w,(o++(AA.Aq w k ((w.AF.at k).A2 - 1) (AA.hit d k)).out)++(AA.FV (AA.Aq w k ((w.AF.at k).A2 - 1) (AA.hit d k)).w ((w.AF.at k).A2 - 1)).out):=(AB hce).trans ((AB hc4).trans (AN hc5))
    rw [AA.UZ hf0.1 hf0.2 c6 y10] at hrs
    rw [hrs] at hrg
    exact⟨by omega,by omega,by rw [AA.DO hI11,hI13,hrs];(try rfl),hrg.1,hrg.2.1,(by have hz:_≤(w,o).2.length+13:=hrg.2.2;have hz2:(w,o).2.length=o.length:=rfl;(try dsimp only at *);omega),by assumption,(by rw [(AA.NN _).2.1];exact hf0)⟩
  · omega
 try dsimp only at c2p
 obtain rfl:k=6:=by omega
 refine W ?_
 intro w1 hS
 have hS:=(hS.perm (AK.perm (.c .h .n))).AM
 have hq:AA.BX X d=((AA.DG X d 6).1,(AA.DG X d 6).2,0):=AB c1
 have hs6:AA.DG X d 6=(w,o):=hI13
 rw [hs6] at hq
 refine⟨_,⟨h,?g9v,?g9l,?g9B⟩,hS⟩
 case g9v=>rw [hq];(try rfl)
 case g9l=>rw [hq];exact hI17
 case g9B=>rw [hq];(try rfl)
theorem IG (p:A9)(s:AL)(hs:s.length≤9000000000000000000)(w:World):Ch Tryz.prog 29 #[.agg p.enc.toArray,Ag s] w fun v w'=>v = .tuple #[.agg (A9.enc ⟨p.wait,(Page.send p s).1.shown,(Page.send p s).1.BL,(Page.send p s).1.ring,(Page.send p s).1.cut⟩).toArray, .int .i64 (Page.send p s).2]∧BF w w':=by
 refine Rb Tryz.func29 ?_
 refine W ?_
 intro b1 b2
 refine⟨fun c1 c1p=>?_,fun c1 c1p=>?_⟩
 ·
  try dsimp only at c1p
  refine W ?_
  rw [← Page.Mk];simp only [Page.QC,Page.of,c1,↓reduceIte,Bool.false_eq_true];rfl
 try dsimp only at c1p
 have hg:=(Page.EU p).1 (by simpa using c1)
 refine W ?_
 refine⟨fun c2 c2p=>?_,fun c2 c2p=>?_⟩
 ·
  try dsimp only at c2p
  refine W ?_
  rw [← Page.Mk,show Page.QC p s=(Page.of p,6) from by simp only [Page.QC,c1,c2,↓reduceIte,Bool.false_eq_true]];rfl
 try dsimp only at c2p
 refine W ?_
 refine⟨fun c3 c3p=>?_,fun c3 c3p=>?_⟩
 ·
  try dsimp only at c3p
  refine W ?_
  rw [← Page.Mk];simp only [Page.QC,Page.of,c1,c2,c3,↓reduceIte,Bool.false_eq_true];rfl
 try dsimp only at c3p
 refine W ?_
 rw [← Page.Mk];simp only [Page.QC,Page.of,c1,c2,c3,↓reduceIte,Bool.false_eq_true];rfl
instance instP29:DI Tryz.prog 29 (type_of% @IG):=⟨@IG⟩
theorem HC (s:AL)(hs:s.length≤70368744000000)(w:World):Ch Tryz.prog 106 #[Ag s] w fun v w'=>v=Ag (Page.escape s)∧BF w w':=by
 refine Rb Tryz.func106 ?_
 refine W ?_
 refine GY J Tryz.underlying9 Tryz.underlying122 Tryz.underlying5 J (fun h1 h1l=>?_)
 refine W ?_
 refine Af (.t4 3 9 7 8) ?_
 refine CG CE 5 1 ?_
 refine Bo (fun(k:Int) (x:AL) (g:Hd)=>0≤k∧k≤s.length∧g.len=x.length∧x++Page.escape (s.drop k.toNat)=Page.escape s∧x.length≤2 * k) (fun(k:Int) (x:AL) (g:Hd)=>((s.length:Int) - k).toNat) (fun(k:Int) (x:AL) (g:Hd)=> [(3,g.val),(9, .int .i64 k)]) (fun(k:Int) (x:AL) (g:Hd)=> [AJ.own g 5 1 (x.flatMap CE)]) (0) ([]) (_) ?_ J J (fun k x g hI1=>?_)
 · exact⟨by omega,by omega,rfl,rfl,by simp⟩
 obtain⟨hI11,hI12,hI13,hI14,hI15⟩:=hI1
 refine W ?_
 refine⟨fun c1 c1p=>?_,fun c1 c1p=>?_⟩
 ·
  try dsimp only at c1p
  refine W ?_
  refine Kh CE SI J Tryz.underlying122 Qk VD J (by decide) (by decide) J J (fun b1=>?_)
  refine F1 SI J Tryz.underlying122 Qk VD J fx (by decide) (by decide) J J (fun w hS=>Src.FG Tryz.underlying122 ((Kn.own .m0) w hS)) (by(try dsimp only at *);omega) (fun _=>(.t .h)) (fun h2 h2l h2z=>?_)
  refine W ?_
  refine⟨fun c2 c2p=>?_,fun c2 c2p=>?_⟩
  ·
   try dsimp only at c2p
   refine W ?_
   refine Kh CE SI J Tryz.underlying122 Qk VD J (by decide) (by decide) J J (fun b2=>?_)
   refine F1 SI J Tryz.underlying122 Qk VD J fx (by decide) (by decide) J J (fun w hS=>Src.FG Tryz.underlying122 ((Kn.own .m0) w hS)) (by(try dsimp only at *);omega) (fun _=>(.t (.t .h))) (fun h3 h3l h3z=>?_)
   refine W ?_
   refine Ap (k+1) _ _ ?_ ?_ (.t4 3 9 7 8) (.cons _ (.cons _ (.refl _)))
   · exact⟨by omega,by omega,by(try dsimp only at *);simp only [List.length_append,List.length_cons,List.length_nil];omega,Page.Vg hI11 (by omega) c2 hI14,by simp only [List.length_append,List.length_cons,List.length_nil];omega⟩
   · omega
  try dsimp only at c2p
  refine W ?_
  refine Ap (k+1) _ _ ?_ ?_ (.t4 3 9 7 8) (.cons _ (.refl _))
  · exact⟨by omega,by omega,by(try dsimp only at *);simp only [List.length_append,List.length_cons,List.length_nil];omega,Page.Vf hI11 (by omega) c2 hI14,by simp only [List.length_append,List.length_cons,List.length_nil];omega⟩
  · omega
 try dsimp only at c1p
 refine W ?_
 rw [← Page.Zm hI14 (by omega)];rfl
instance instP106:DI Tryz.prog 106 (type_of% @HC):=⟨@HC⟩
theorem Mc {t0:Nat}(p:A9)(qs:List AL)(top:Int)(hs:∀ s∈qs,s.length≤70368744000000):Cz Tryz.prog 55 #[.agg p.enc.toArray, .int .i64 top] [] (fun w=>Rd w p.wait t0 1 (qs.flatMap AX)) (fun v B=>((!Page.A5 p || decide (top < 0) || decide (200 < top))=true∧v = .tuple #[.agg p.enc.toArray, .int .i64 2]∧B = [])∨((!Page.A5 p || decide (top < 0) || decide (200 < top))=false∧∃ h':Hd,v = .tuple #[.agg (A9.enc ⟨h',(Page.BJ top qs (Page.of p)).1.shown,(Page.BJ top qs (Page.of p)).1.BL,(Page.BJ top qs (Page.of p)).1.ring,(Page.BJ top qs (Page.of p)).1.cut⟩).toArray, .int .i64 0]∧h'.len=(Page.BJ top qs (Page.of p)).2.length∧B = [AJ.own h' 9 1 ((Page.BJ top qs (Page.of p)).2.flatMap AX)])):=by
 intro w hS0 hH
 have r0:=hH
 have hl0:=r0.Gh Cr (by decide)
 refine AR _ _ Tryz.func55 J J J (hS0) ?_
 refine W ?_
 intro b1 b2
 refine⟨fun c1 c1p=>?_,fun c1 c1p=>?_⟩
 ·
  try dsimp only at c1p
  refine W ?_
  intro w1 hS
  have hS:=(hS.perm (AK.perm .n)).AM
  exact⟨_, .inl ⟨c1,J,J⟩,hS⟩
 try dsimp only at c1p
 have hgd:Page.A5 p=true∧0≤top∧top≤200:=by simp at c1;exact⟨c1.1.1,by omega,by omega⟩
 have hgi:=(Page.EU p).1 hgd.1
 refine W ?_
 refine Cm .n (H8 _ _ (by omega)) (fun v1 B hv=>?_) (fun _=>(fun w hS=>(Kn.Il r0) w hS))
 obtain⟨y2,rfl,y3,rfl⟩:=hv
 refine W ?_
 refine Af (.t3 1 2 4) ?_
 refine AY (.t (.t .h)) ?_
 refine AY (.t .h) ?_
 refine S9 (fun(rest:List AL) (sh:Int) (ak:Bool) (ring:AL) (ct:Bool) (g:Hd)=>Page.FI top qs (Page.of p) rest g ⟨sh,ak,ring,ct⟩∧True) (fun(rest:List AL) (sh:Int) (ak:Bool) (ring:AL) (ct:Bool) (g:Hd)=>rest.length) (fun(rest:List AL) (sh:Int) (ak:Bool) (ring:AL) (ct:Bool) (g:Hd)=> []) (fun(rest:List AL) (sh:Int) (ak:Bool) (ring:AL) (ct:Bool) (g:Hd)=> [AJ.own g 9 1 (rest.flatMap AX),AJ.box b1 60 (A9.enc ⟨g,sh,ak,ring,ct⟩)]) (qs) (p.shown) (p.BL) (p.ring) (p.cut) (_) ?_ J J (fun rest sh ak ring ct g hI1=>?_)
 · exact⟨(Page.FI.start hgd.1 hl0 hs).hd (by assumption),trivial⟩
 obtain⟨hI11,_⟩:=hI1;have hl:=hI11.hl;have hn:=hI11.n;have hr:=hI11.ring;have hs0:=hI11.s0;have hs1:=hI11.s1;dsimp only at hr hs0 hs1
 refine W ?_
 refine⟨fun c2 c2p=>?_,fun c2 c2p=>?_⟩
 ·
  try dsimp only at c2p
  refine W ?_
  intro w1 hS
  have hS:=(hS.perm (AK.perm (.c .h .n))).AM
  have e:=hI11.iU c2
  exact⟨_, .inr ⟨c1,g,(by first | (rw [e];done) | (rw [e];rfl)),(by rw [e];exact hI11.hl),(by rw [e])⟩,hS⟩
 try dsimp only at c2p
 have hc3:0 < rest.length∧ak=false∧ct=false:=by simp at c2;exact⟨by omega,c2.1.2,c2.2⟩
 obtain⟨hc0,hak,hct⟩:=hc3
 obtain⟨q,r,rfl⟩:=Aa.OK (qs:=rest) (by omega)
 refine W ?_
 refine⟨fun c3 c3p=>?_,fun c3 c3p=>?_⟩
 ·
  try dsimp only at c3p
  rw [Page.Wi hgd.2.1] at c3
  try have:=Page.FC ((q :: r).getD (0:Int).toNat [])
  try have:=hI11.len ((q :: r).getD (0:Int).toNat []) (by simp)
  refine W ?_
  intro w1 hS
  have hS:=(hS.perm (AK.perm (.c .h .n))).AM
  have e:=hI11.asks hak hct c3
  exact⟨_, .inr ⟨c1,g,(by first | (rw [e];done) | (rw [e];rfl)),(by rw [e];exact hI11.hl),(by rw [e])⟩,hS⟩
 try dsimp only at c3p
 rw [Page.Wi hgd.2.1] at c3
 try have:=Page.FC ((q :: r).getD (0:Int).toNat [])
 try have:=hI11.len ((q :: r).getD (0:Int).toNat []) (by simp)
 refine W ?_
 refine Dm Cr J Tryz.underlying56 OZ J J (by decide) (by first | omega | (have h1:=Page.FC ((q :: r).getD (0:Int).toNat []);have h2:=hI11.len ((q :: r).getD (0:Int).toNat []) (by simp);simp only [List.length_append,List.length_cons,List.length_nil] at *;omega)) (fun _=> .h) ?_
 try have:=Page.FC ((q :: r).getD (0:Int).toNat [])
 try have:=hI11.len ((q :: r).getD (0:Int).toNat []) (by simp)
 refine W ?_
 refine CN (r) _ _ _ _ _ ?_ ?_ (.t3 1 2 4) (.refl _)
 · exact⟨hI11.next hak hct c3 (by simp only [Hd.cut,List.length_cons] at *;omega) (by rw [Int.min_comm (sh+1) 200];first | done | rfl),trivial⟩
 · simp only [List.length_cons];omega
theorem Bg (b:Nat)(V:AE)(ls:Vector Ae 4)(ev:List Ing.Event)(n m:Nat)(hF:AG.Fit (AO V ls ev) n m)(hn:n≤600000)(hm:m≤600000):Cz Tryz.prog 25 #[.pointer (some ⟨b,0,none⟩)] [AJ.box b 65 (AE.enc V),AJ.CI (BB 9 (AE.AP V) ls),AJ.own (AE.last V) 100 16 ((ev).flatMap Ing.Event.enc)] (fun w=>(GV 3 EH w∧3 ∉ BV [AJ.box b 65 (AE.enc V),AJ.CI (BB 9 (AE.AP V) ls),AJ.own (AE.last V) 100 16 ((ev).flatMap Ing.Event.enc)])∧(GV 0 AD.Be w∧0 ∉ BV [AJ.box b 65 (AE.enc V),AJ.CI (BB 9 (AE.AP V) ls),AJ.own (AE.last V) 100 16 ((ev).flatMap Ing.Event.enc)])∧(Eo 8 w∧8 ∉ BV [AJ.box b 65 (AE.enc V),AJ.CI (BB 9 (AE.AP V) ls),AJ.own (AE.last V) 100 16 ((ev).flatMap Ing.Event.enc)])∧(Eo 9 w∧9 ∉ BV [AJ.box b 65 (AE.enc V),AJ.CI (BB 9 (AE.AP V) ls),AJ.own (AE.last V) 100 16 ((ev).flatMap Ing.Event.enc)])) (fun v B=>∃ V' ls' ev',v = .tuple #[]∧AO V' ls' ev'=AG.BJ (AO V ls ev)∧B = [AJ.box b 65 (AE.enc V'),AJ.CI (BB 9 (AE.AP V') ls'),AJ.own (AE.last V') 100 16 ((ev').flatMap Ing.Event.enc)]):=by
 intro w hS0 hH
 obtain⟨⟨gl0,gm0⟩,⟨gl1,gm1⟩,⟨gl2,gm2⟩,⟨gl3,gm3⟩⟩:=hH
 refine AR _ _ Tryz.func25 J J J (hS0) ?_
 refine W ?_
 refine Af (.t2 2 0) ?_
 refine AY (.t (.t .h)) ?_
 refine AY (.t (.t .h)) ?_
 refine AY (.t (.t .h)) ?_
 refine J9 (fun(V1:AE) (ls1:Vector Ae 4) (ev1:List Ing.Event) (a:Bool) (q:Nat)=>AG.LY (AO V ls ev) (AO V1 ls1 ev1) n m a q) (fun(V1:AE) (ls1:Vector Ae 4) (ev1:List Ing.Event) (a:Bool) (q:Nat)=>AG.OW (AO V1 ls1 ev1) a) (fun(V1:AE) (ls1:Vector Ae 4) (ev1:List Ing.Event) (a:Bool) (q:Nat)=> [(2, .bool a)]) (fun(V1:AE) (ls1:Vector Ae 4) (ev1:List Ing.Event) (a:Bool) (q:Nat)=> [AJ.box b 65 (AE.enc V1),AJ.CI (BB 9 (AE.AP V1) ls1),AJ.own (AE.last V1) 100 16 (ev1.flatMap Ing.Event.enc)]) (V) (ls) (ev) (true) (0) ?_ J J (fun V1 ls1 ev1 a q hI1=>?_)
 · exact AG.LY.start hF
 refine W ?_
 refine⟨fun c1 c1p=>?_,fun c1 c1p=>?_⟩
 ·
  obtain rfl:a=true:=c1
  have hq5:=hI1.q5
  refine W ?_
  refine Af (.t3 2 5 0) ?_
  refine AY (.t (.t .h)) ?_
  refine AY (.t (.t .h)) ?_
  refine AY (.t (.t .h)) ?_
  refine J9 (fun(i:Int) (V2:AE) (ls2:Vector Ae 4) (ev2:List Ing.Event) (c:Bool)=>0≤i∧i≤4∧((AO V2 ls2 ev2),c)=(AO V1 ls1 ev1).CH i.toNat) (fun(i:Int) (V2:AE) (ls2:Vector Ae 4) (ev2:List Ing.Event) (c:Bool)=>(4 - i).toNat) (fun(i:Int) (V2:AE) (ls2:Vector Ae 4) (ev2:List Ing.Event) (c:Bool)=> [(2, .bool c),(5, .int .i64 i)]) (fun(i:Int) (V2:AE) (ls2:Vector Ae 4) (ev2:List Ing.Event) (c:Bool)=> [AJ.box b 65 (AE.enc V2),AJ.CI (BB 9 (AE.AP V2) ls2),AJ.own (AE.last V2) 100 16 (ev2.flatMap Ing.Event.enc)]) (0) (V1) (ls1) (ev1) (false) ?_ J J (fun i V2 ls2 ev2 c hI2=>?_)
  · exact⟨by omega,by omega,rfl⟩
  obtain⟨hI21,hI22,hI23⟩:=hI2
  refine W ?_
  refine⟨fun c2 c2p=>?_,fun c2 c2p=>?_⟩
  ·
   have hi:0≤i∧i < 4:=⟨by omega,by omega⟩
   have hF2:=NB hI1.fit hi.1 (by omega) hI23
   refine W ?_
   refine⟨fun c3 c3p=>?_,fun c3 c3p=>?_⟩
   ·
    refine W ?_
    refine C7 (i+1) _ _ _ _ ?_ ?_ (.t3 2 5 0) (.refl _)
    · exact⟨by omega,by omega,((F6 hi.1 hi.2 hI23).trans (AN c3)).symm⟩
    · omega
   refine Ws 100072 ?_
   refine AY (.t (.t .h)) ?_
   refine AY (.t (.t .h)) ?_
   refine AY (.t (.t .h)) ?_
   refine Kk (Lm:= [_,_,_]) (fun(V3:AE) (ls3:Vector Ae 4)=>(AO V3 ls3 ev2)=(AO V2 ls2 ev2).set i ((AO V2 ls2 ev2).at_ i).BJ) (fun(V3:AE) (ls3:Vector Ae 4)=> []) (fun(V3:AE) (ls3:Vector Ae 4)=> [AJ.box b 65 (AE.enc V3),AJ.CI (BB 9 (AE.AP V3) ls3),AJ.own (AE.last V3) 100 16 (ev2.flatMap Ing.Event.enc)]) (.t4 0 2 3 5) J ?_ (fun V3 ls3 hC=>?_)
   ·
    refine Ws 7 ?_
    refine Cj (k:=i) hi.1 hi.2 (fun sv sl hsv hlv hln=>?_)
    refine W ?_
    refine Cm .n (Mc _ _ _ (by rw [← hlv];exact S5 hF2 hi.1 hi.2)) (fun v1 B hv=>?_) (fun _=>(fun w hS=>(Kn.own .m1) w hS))
    rcases hv with ⟨y2,rfl,rfl⟩ | ⟨y3,y4,rfl,y5,rfl⟩
    ·
     refine W ?_
     refine Ar (.c .h (.c .h (.c .h (.c .h (.c .h .n))))) ?_
     refine MB hi.1 hi.2 (by rfl) (by rfl) (by rfl) ?_
     refine Bx _ _ ?_ (.t4 0 2 3 5) (.refl _)
     · exact B4 hi.1 hi.2 hsv hlv (f:=Ak.BJ) (PF hln.2.1 y2)
    refine W ?_
    refine Ar (.c (.t .h) (.c .h (.c (.t .h) (.c (.t .h) (.c (.t .h) .n))))) ?_
    refine MB hi.1 hi.2 (by rfl) (by rfl) (by rfl) ?_
    refine Ar (.c .h (.c .h (.c (.t .h) .n))) ?_
    refine Az ?_
    refine Bx _ _ ?_ (.t4 0 2 3 5) (.refl _)
    · exact B4 hi.1 hi.2 hsv hlv (f:=Ak.BJ) (Wq hln.2.1 y3 _)
   refine W ?_
   refine⟨fun c4 c4p=>?_,fun c4 c4p=>?_⟩
   ·
    refine W ?_
    refine Cm (.c .h (.c .h (.c .h .n))) (Es _ V3 ls3 ev2 i _ _ hi (by rw [hC];exact hF2.Wp hi.1 hi.2) (by omega) (by omega)) (fun v7 B hv=>?_)
    obtain⟨y8,y9,y10,rfl,y11,rfl⟩:=hv
    refine W ?_
    refine C7 (i+1) _ _ _ _ ?_ ?_ (.t3 2 5 0) (.refl _)
    · exact⟨by omega,by omega,(((F6 hi.1 hi.2 hI23).trans ((AB c3).trans (AN (show _=true from(OV hi.1 hi.2 hC).symm.trans c4)))).trans (by rw [← hC,← y11])).symm⟩
    · omega
   refine W ?_
   refine C7 (i+1) _ _ _ _ ?_ ?_ (.t3 2 5 0) (.refl _)
   · exact⟨by omega,by omega,(((F6 hi.1 hi.2 hI23).trans ((AB c3).trans (AB (show _=false from(OV hi.1 hi.2 hC).symm.trans c4)))).trans (by rw [← hC])).symm⟩
   · omega
  obtain rfl:i=4:=by omega
  have hE:=hI1.step hI23
  refine W ?_
  refine C7 _ _ _ _ (q+1) ?_ ?_ (.t2 2 0) (.refl _)
  · exact hE.1
  · exact AG.WG hE.2
 refine W ?_
 intro w1 hS
 have hS:=(hS.perm (AK.perm (.c .h (.c .h (.c .h .n))))).AM
 refine⟨_,⟨V1,ls1,ev1,J,?ga1,J⟩,hS⟩
 case ga1=>exact(hI1.off c1).symm
theorem Bc {t0:Nat}(h:Hd)(xs:List Int)(h9:∀ x∈xs,0≤x∧x≤255)(hn:xs.length≤1000000)(w:World)(r0:Rd w h t0 1 (xs.flatMap AT)):Ch Tryz.prog 26 #[h.val] w fun v w'=>v=Ag (AI.bytesOf xs)∧BF w w':=by
 have hl:=r0.Gh Bm (by decide)
 refine Rb Tryz.func26 ?_
 refine W ?_
 refine Af (.t4 3 8 6 7) ?_
 refine CZ (fun(k:Int) (s:AL)=>0≤k∧k≤xs.length∧AI.bytesOf xs=s++AI.bytesOf (xs.drop k.toNat)∧s.length=k.toNat) (fun(k:Int) (s:AL)=>((xs.length:Int) - k).toNat) (fun(k:Int) (s:AL)=> [(3,Ag s),(8, .int .i64 k)]) (fun(k:Int) (s:AL)=> []) (0) ([]) ?_ J J (fun k s hI1=>?_)
 · exact⟨by omega,by omega,rfl,rfl⟩
 obtain⟨hI11,hI12,hI13,hI14⟩:=hI1
 refine W ?_
 refine⟨fun c1 c1p=>?_,fun c1 c1p=>?_⟩
 ·
  try dsimp only at c1p
  have hx:=h9 (xs.getD k.toNat 0) (AI.PI (by omega))
  refine W ?_
  refine M0 J Tryz.underlying122 Qk VD J (by decide) (by decide) J J J (fun b1=>?_)
  refine Gt (HR (s:= [u8 (xs.getD k.toNat 0)]) (by show [_]=CE _ ++ [];simp only [CE,QL hx.1 hx.2,List.append_nil]) Tryz.underlying122 Tryz.underlying9 Tryz.underlying5 J (Kn.own .m0)) ?_
  refine W ?_
  refine BC _ _ ?_ ?_ (.t4 3 8 6 7) (.cons _ (.refl _))
  · exact⟨by omega,by omega,by rw [hI13,AI.R9 hI11 (by omega),List.append_assoc],by simp only [List.length_append,List.length_cons,List.length_nil];omega⟩
  · omega
 try dsimp only at c1p
 refine W ?_
 obtain rfl:k=xs.length:=by omega
 rw [hI13];simp [WQ,AI.bytesOf]
instance instP26:DI Tryz.prog 26 (type_of% @Bc):=⟨@Bc⟩
theorem HD (X:AI)(w:World):Ch Tryz.prog 57 #[.agg X.enc.toArray] w fun v w'=>v = .bool X.C2∧BF w w':=by
 refine Rb Tryz.func57 ?_
 refine W ?_
 intro b1
 refine Af (.t2 4 1) ?_
 refine A7 (fun(k:Int)=>0≤k∧k≤3∧X.C2=(A4 3 (fun i=>!X.OH i) (3 - k).toNat && X.E1)) (fun(k:Int)=>(3 - k).toNat) (fun(k:Int)=> [(4, .int .i64 k)]) (fun(k:Int)=> []) (0) ?_ J J (fun k hI1=>?_)
 · exact⟨Int.le_refl _,by omega,rfl⟩
 obtain⟨hI11,hI12,hI13⟩:=hI1
 refine W ?_
 refine⟨fun c1 c1p=>?_,fun c1 c1p=>?_⟩
 ·
  try dsimp only at c1p
  rw [Bh _ (by omega)] at hI13
  refine W ?_
  refine⟨fun c2 c2p=>?_,fun c2 c2p=>?_⟩
  ·
   try dsimp only at c2p
   refine W ?_
   refine congrArg Value.bool ?_;rw [hI13,AI.OH,c2];rfl
  try dsimp only at c2p
  refine W ?_
  refine Aw (k+1) ?_ ?_ (.t2 4 1) (.refl _)
  · exact⟨by omega,by omega,by rw [hI13,AI.OH,c2];rfl⟩
  · omega
 try dsimp only at c1p
 obtain rfl:k=3:=by omega
 refine W ?_
 refine⟨fun c3 c3p=>?_,fun c3 c3p=>?_⟩
 ·
  try dsimp only at c3p
  refine W ?_
  refine congrArg Value.bool ?_;rw [hI13];show _=(true && _);rw [Bool.true_and,AI.E1];simp only [c1,c3,↓reduceIte,Bool.false_eq_true]
 try dsimp only at c3p
 refine W ?_
 refine⟨fun c4 c4p=>?_,fun c4 c4p=>?_⟩
 ·
  try dsimp only at c4p
  refine W ?_
  refine congrArg Value.bool ?_;rw [hI13];show _=(true && _);rw [Bool.true_and,AI.E1];simp only [c1,c3,c4,↓reduceIte,Bool.false_eq_true]
 try dsimp only at c4p
 refine W ?_
 refine⟨fun c5 c5p=>?_,fun c5 c5p=>?_⟩
 ·
  try dsimp only at c5p
  refine W ?_
  refine congrArg Value.bool ?_;rw [hI13];show _=(true && _);rw [Bool.true_and,AI.E1];simp only [c1,c3,c4,c5,↓reduceIte,Bool.false_eq_true]
 try dsimp only at c5p
 refine W ?_
 refine⟨fun c6 c6p=>?_,fun c6 c6p=>?_⟩
 ·
  try dsimp only at c6p
  refine W ?_
  refine congrArg Value.bool ?_;rw [hI13];show _=(true && _);rw [Bool.true_and,AI.E1];simp only [c1,c3,c4,c5,c6,↓reduceIte,Bool.false_eq_true]
 try dsimp only at c6p
 refine W ?_
 refine⟨fun c7 c7p=>?_,fun c7 c7p=>?_⟩
 ·
  try dsimp only at c7p
  refine W ?_
  refine congrArg Value.bool ?_;rw [hI13];show _=(true && _);rw [Bool.true_and,AI.E1];simp only [c1,c3,c4,c5,c6,c7,↓reduceIte,Bool.false_eq_true]
 try dsimp only at c7p
 refine W ?_
 refine⟨fun c8 c8p=>?_,fun c8 c8p=>?_⟩
 ·
  try dsimp only at c8p
  refine W ?_
  refine congrArg Value.bool ?_;rw [hI13];show _=(true && _);rw [Bool.true_and,AI.E1];simp only [c1,c3,c4,c5,c6,c7,c8,↓reduceIte,Bool.false_eq_true]
 try dsimp only at c8p
 refine W ?_
 refine congrArg Value.bool ?_;rw [hI13];show _=(true && _);rw [Bool.true_and,AI.E1];simp only [c1,c3,c4,c5,c6,c7,c8,↓reduceIte,Bool.false_eq_true]
instance instP57:DI Tryz.prog 57 (type_of% @HD):=⟨@HD⟩
theorem Gl (b c:Nat)(X:AI)(z:UInt8)(h0:X.sub.length≤16):Fu Tryz.prog 58 #[.pointer (some ⟨b,0,none⟩), .pointer (some ⟨c,0,none⟩)] [AJ.box b 55 X.enc,AJ.box c 3 [.int .i64 (z.toNat:Int)]] (fun v B=>v = .tuple #[]∧B = [AJ.box b 55 (X.collect z).enc,AJ.box c 3 [.int .i64 (z.toNat:Int)]]):=by
 intro w hS0
 have hz:=z.toNat_lt
 refine AR _ _ Tryz.func58 J J J (hS0) ?_
 refine W ?_
 refine⟨fun c1 c1p=>?_,fun c1 c1p=>?_⟩
 ·
  try dsimp only at c1p
  refine W ?_
  intro b1
  refine Cp (fun w hS=>Bc _ [(z.toNat:Int)] (by intro x hx;simp at hx;omega) (by simp) w ((Kn.own .m0) w hS)) ?_
  refine W ?_
  intro w1 hS
  have hS:=(hS.perm (AK.perm (.c (.t .h) (.c (.t .h) .n)))).AM
  exact⟨_,⟨J,by rw [show X.collect z=_ from(AN c1)]<;>simp only [Aa.E9]⟩,hS⟩
 try dsimp only at c1p
 refine W ?_
 intro w1 hS
 have hS:=(hS.perm (AK.perm (.c .h (.c .h .n)))).AM
 exact⟨_,⟨J,by rw [show X.collect z=_ from(AB c1)]<;>simp only [Aa.E9]⟩,hS⟩
end Go.Proofs.YtlmmdjaoikaceaaGreatDoor
