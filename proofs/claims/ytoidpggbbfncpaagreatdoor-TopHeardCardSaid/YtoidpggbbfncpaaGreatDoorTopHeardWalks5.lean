/- What the functions that the law TopHeard reaches compute: walks, part 5. No condition. -/
import Derived.Test.YtoidpggbbfncpaaGreatDoorCards
import Derived.Test.YtoidpggbbfncpaaGreatDoorTie
import Derived.Deep.DeepHandedRow
import Derived.Test.YtoidpggbbfncpaaGreatDoorRows
import Derived.Test.YtoidpggbbfncpaaGreatDoorTopHeardEc3
import Derived.Test.YtoidpggbbfncpaaGreatDoorTopHeardRa1
import Derived.Test.YtoidpggbbfncpaaGreatDoorTopHeardRb1
import Derived.Test.YtoidpggbbfncpaaGreatDoorTopHeardRc1
import Derived.Test.YtoidpggbbfncpaaGreatDoorTopHeardWalks
import Derived.Test.YtoidpggbbfncpaaGreatDoorTopHeardWalks2
import Derived.Test.YtoidpggbbfncpaaGreatDoorTopHeardWalks3
import Derived.Test.YtoidpggbbfncpaaGreatDoorTopHeardWalks4
set_option linter.unusedSimpArgs false
set_option linter.unusedVariables false
set_option maxRecDepth 100000
set_option maxHeartbeats 1000000
namespace Go.Proofs.YtoidpggbbfncpaaGreatDoor
open Go Go.Ing Go.RowKit Go.ChangeShapes Go.WideShapes Go.ChangeAt
theorem Qt (b:Nat)(V:AL)(ls:Vector BG 4)(ev:List Ing.Event)(k:Int)(n m:Nat)(hk:0≤k∧k < 4)(hF:AI.Fit (A5 V ls ev) n m)(hn:n≤900000)(hm:m≤900000):FC Tryz.prog 77 #[.pointer (some ⟨b,0,none⟩), .pointer (some ⟨b,165+k.toNat * 22,none⟩)] [Ac.box b 101 (AL.enc V),Ac.D7 (CJ 9 (AL.Ax V) ls),Ac.own (AL.last V) 56 16 ((ev).flatMap Ing.Event.enc)] (fun w=>(GV 2 Fa w∧2 ∉ Cc [Ac.box b 101 (AL.enc V),Ac.D7 (CJ 9 (AL.Ax V) ls),Ac.own (AL.last V) 56 16 ((ev).flatMap Ing.Event.enc)])∧(GV 0 AG.DE w∧0 ∉ Cc [Ac.box b 101 (AL.enc V),Ac.D7 (CJ 9 (AL.Ax V) ls),Ac.own (AL.last V) 56 16 ((ev).flatMap Ing.Event.enc)])∧(G0 7 w∧7 ∉ Cc [Ac.box b 101 (AL.enc V),Ac.D7 (CJ 9 (AL.Ax V) ls),Ac.own (AL.last V) 56 16 ((ev).flatMap Ing.Event.enc)])∧(G0 8 w∧8 ∉ Cc [Ac.box b 101 (AL.enc V),Ac.D7 (CJ 9 (AL.Ax V) ls),Ac.own (AL.last V) 56 16 ((ev).flatMap Ing.Event.enc)])) (fun v B=>∃ V' ls' ev',v = .tuple #[]∧A5 V' ls' ev'=AI.EW (A5 V ls ev) k∧B = [Ac.box b 101 (AL.enc V'),Ac.D7 (CJ 9 (AL.Ax V') ls'),Ac.own (AL.last V') 56 16 ((ev').flatMap Ing.Event.enc)]):=by
 intro w hS0 hH
 obtain⟨⟨gl0,gm0⟩,⟨gl1,gm1⟩,⟨gl2,gm2⟩,⟨gl3,gm3⟩⟩:=hH
 refine Al _ _ Tryz.func77 rfl rfl rfl (hS0) ?_
 refine CD (Gm rfl (Gt (BV rfl) (Gt (Ai JF rfl) (Gt (AH rfl A4 .m0 ((AL.l1.comp (AU.arr (n:=4) A2.fl hk.1 hk.2)).comp A2.l0) rfl rfl) (Gt (Ag rfl rfl) (Gn (.t3 0 1 11) ?_))))))
 refine Gc (fun c1=>?_) (fun c1=>?_)
 ·
  refine Ab (AD ?_)
  refine AY rfl .n ?_
  intro w1 hS
  have hS:=(hS.perm (Ay.perm (.c .h (.c .h (.c .h .n))))).A1
  exact⟨_,⟨V,ls,ev,rfl,VV hk.1 hk.2 c1,rfl⟩,hS⟩
 have c1p:=kz c1
 refine Aa ?_
 refine AB (.t2 0 1) ?_
 refine AA (Gs (Ga rfl (Gn (.t2 0 1) (Gs (Ga rfl (Gn (.t2 0 1) (Ap ?_)))))))
 refine Ap ?_
 refine Ft (k:=k) hk.1 hk.2 (fun sv sl hsv hlv hln=>?_)
 refine AJ (Gm rfl (Gm rfl (Gt (BV rfl) (Gt (Ai Mx rfl) (Gt (AZ rfl J8 .m3 ((AU.BM V hk.1 hk.2).comp A2.l3) rfl) ?_)))))
 refine BE rfl fM (.c rfl .n) .n (Ns _ _ (by have h:=(WQ hF hk.1 hk.2).1;rw [hlv] at h;omega)) (fun w hS=>⟨(Kn.own .m0) w hS,(Wn.own .m0) w hS⟩) (fun v1 B hv=>?_)
 rcases hv with ⟨y2,rfl,rfl⟩ | ⟨y3,y4,y5,y6,rfl,y7,rfl⟩
 ·
  refine Gm rfl (Gt (AM rfl rfl) (Gt (AM rfl rfl) (Gt (AM rfl rfl) (Gt (BV rfl) (Gt (Ai Mx rfl) ?_)))))
  refine AT (AK ((AU.BM V hk.1 hk.2).comp A2.l3) rfl rfl rfl Nx rfl (.t (.t (.t .h)))) ?_
  refine Ga rfl (Ga rfl (Gn (.t4 0 1 4 5) (Gs (Gm rfl (Gt (BT rfl) (Gn (.t4 0 1 4 25) ?_))))))
  refine HA rfl rfl ?_
  refine Ab (AD ?_)
  refine AY rfl .n ?_
  intro w1 hS
  have hS:=(hS.perm (Ay.perm (.c .h (.c .h (.c .h (.c .h (.c .h (.c .h .n)))))))).A1
  have hS:=hS.close' hk.1 hk.2 (by rfl) (by rfl) (by rfl)
  refine⟨_,⟨V.BM k sv,ls.put k ⟨sl.queue,sl.wait,sl.told⟩,ev,rfl,?ga2,rfl⟩,hS⟩
  case ga2=>exact V7 hk.1 hk.2 hsv hlv y2 c1
 refine Gm rfl (Gt (AM rfl rfl) (Gt (AM rfl rfl) (Gt (AM rfl rfl) (Gt (BV rfl) (Gt (Ai Mx rfl) ?_)))))
 refine AT (AK ((AU.BM V hk.1 hk.2).comp A2.l3) rfl rfl rfl Nx rfl (.t (.t (.t (.t .h))))) ?_
 refine Ga rfl (Ga rfl (Gn (.t4 0 1 4 5) (Gs (Gm rfl (Gt (BT rfl) (Gn (.t4 0 1 4 25) ?_))))))
 refine EP rfl rfl ?_
 refine Aa ?_
 refine AB (.t3 0 1 4) ?_
 refine AA (Gs (Gm rfl (Gt (BV rfl) (Gt (Ai D2 rfl) (Gt (Ai Q1 rfl) (Gt (AH rfl Dr .m4 (((AU.BM V hk.1 hk.2).comp A2.l4).comp Az.l2) rfl rfl) (Ga rfl ?_)))))))
 refine Gn (.t4 0 1 4 6) (Gs (Gm rfl (Gm rfl (Gt (BV rfl) (Gt (Ai D2 rfl) (Gt (AZ rfl C3 .m4 ((AU.BM V hk.1 hk.2).comp A2.l4) rfl) ?_))))))
 refine BA rfl fJ (.c rfl .n) (fun w hS=>NW _ w) ?_
 refine Gt (BV rfl) (Gt (Ai D2 rfl) ?_)
 refine AT (AK ((AU.BM V hk.1 hk.2).comp A2.l4) rfl rfl rfl Fw rfl (.t (.t (.t (.t .h))))) ?_
 refine Gn (.t4 0 1 4 6) (Ae (Ap ?_))
 refine Eu (.c .h (.c (.t .h) (.c (.t .h) (.c (.t .h) (.c (.t .h) .n))))) ?_
 refine HG hk.1 hk.2 (by rfl) (by rfl) (by rfl) ?_
 refine AJ (Gm rfl (Ga rfl (Gn (.t4 0 1 4 43) ?_)))
 refine Gc (fun c2=>?_) (fun c2=>?_)
 ·
  refine Aa ?_
  refine AB (.nil _) ?_
  refine AW ?_
  refine Bk rfl .n ?_
  intro w1 hS
  have hS:=(hS.perm (Ay.perm (.c .h (.c .h (.c (.t .h) .n))))).A1
  exact⟨_,⟨(AL.BM V k { sv with Eg:=⟨sv.Eg.now,sv.Eg.Cy,sv.Eg.ret,y6⟩,out:=⟨sv.out.wait,0,false,sv.out.ring,sv.out.cut⟩ }),(ls.put k ⟨y4,sl.wait,sl.told⟩),ev,rfl,(Dk (ev:=ev) hk.1 hk.2 hsv hlv y5 c1 y6).1.trans ((Dk (ev:=ev) hk.1 hk.2 hsv hlv y5 c1 y6).2.2.trans (if_pos c2)).symm,rfl⟩,hS⟩
 have c2p:=kz c2
 refine Gs (Gm rfl (Gt (BV rfl) (Gt (Ai JF rfl) (Gt (AH rfl A4 .m0 ((AL.l1.comp (AU.arr (n:=4) A2.fl hk.1 hk.2)).comp A2.l0) rfl rfl) (Gt (Ag rfl rfl) (Ga rfl (Gn (.t4 0 1 4 45) ?_)))))))
 refine Gc (fun c3=>?_) (fun c3=>?_)
 ·
  have c3p:=kz c3
  refine AJ (Gm rfl (Gm rfl (Gm rfl ?_)))
  refine BA rfl dC (.c rfl (.c rfl .n)) (fun w hS=>H8 y3 (by have h:y3.length≤1000:=(by have h:=(hF.queue k hk.1 hk.2).2 y3 (by rw [(Dk (ev:=ev) hk.1 hk.2 hsv hlv y5 c1 y6).2.1];exact List.mem_cons_self ..);omega);omega) w) ?_
  refine BE rfl fE (.c rfl (.c rfl (.c rfl .n))) (.c .h (.c .h (.c (.t .h) .n))) (RI _ (AL.BM V k { sv with Eg:=⟨sv.Eg.now,sv.Eg.Cy,sv.Eg.ret,y6⟩,out:=⟨sv.out.wait,0,false,sv.out.ring,sv.out.cut⟩ }) (ls.put k ⟨y4,sl.wait,sl.told⟩) ev k _ n m hk (by rw [(Dk (ev:=ev) hk.1 hk.2 hsv hlv y5 c1 y6).1];exact hF.Fb hk.1 hk.2 (Dk (ev:=ev) hk.1 hk.2 hsv hlv y5 c1 y6).2.1) hn hm (by have h:y3.length≤1000:=(by have h:=(hF.queue k hk.1 hk.2).2 y3 (by rw [(Dk (ev:=ev) hk.1 hk.2 hsv hlv y5 c1 y6).2.1];exact List.mem_cons_self ..);omega);have h1:=Words.Lh 32 (Words.R9 32 y3);have h2:=Words.Rc 32 y3;omega)) (fun w hS=>⟨gl0.pull gm0 hS (.c .h (.c .h (.c (.t .h) .n))),gl1.pull gm1 hS (.c .h (.c .h (.c (.t .h) .n)))⟩) (fun v9 B hv=>?_)
  obtain⟨y10,y11,y12,rfl,y13,rfl⟩:=hv
  refine AQ (AB (.nil _) ?_)
  refine AW ?_
  refine Bk rfl .n ?_
  intro w1 hS
  have hS:=(hS.perm (Ay.perm (.c .h (.c .h (.c .h .n))))).A1
  have c9:decide (sv.state=1)=true:=by
    have h:=c3
    rw [show(AL.Ax (AL.BM V k { sv with Eg:=⟨sv.Eg.now,sv.Eg.Cy,sv.Eg.ret,y6⟩,out:=⟨sv.out.wait,0,false,sv.out.ring,sv.out.cut⟩ })).at k=_ from Vector.CE hk.1 hk.2] at h
    exact h
  refine⟨_,⟨y10,y11,y12,rfl,?ga4,rfl⟩,hS⟩
  case ga4=>exact y13.trans ((congrArg (fun X=>AI.named X k _) (Dk (ev:=ev) hk.1 hk.2 hsv hlv y5 c1 y6).1).trans ((Dk (ev:=ev) hk.1 hk.2 hsv hlv y5 c1 y6).2.2.trans ((AX c2).trans (BB c9))).symm)
 have c3p:=kz c3
 refine AJ (Gm rfl (Gm rfl (Gm rfl ?_)))
 refine BE rfl fR (.c rfl (.c rfl (.c rfl .n))) (.c .h (.c .h (.c (.t .h) .n))) (Py _ (AL.BM V k { sv with Eg:=⟨sv.Eg.now,sv.Eg.Cy,sv.Eg.ret,y6⟩,out:=⟨sv.out.wait,0,false,sv.out.ring,sv.out.cut⟩ }) (ls.put k ⟨y4,sl.wait,sl.told⟩) ev k _ n m hk (by rw [(Dk (ev:=ev) hk.1 hk.2 hsv hlv y5 c1 y6).1];exact hF.Fb hk.1 hk.2 (Dk (ev:=ev) hk.1 hk.2 hsv hlv y5 c1 y6).2.1) hn hm (by have h:=(hF.queue k hk.1 hk.2).2 y3 (by rw [(Dk (ev:=ev) hk.1 hk.2 hsv hlv y5 c1 y6).2.1];exact List.mem_cons_self ..);omega)) (fun w hS=>⟨gl0.pull gm0 hS (.c .h (.c .h (.c (.t .h) .n))),gl1.pull gm1 hS (.c .h (.c .h (.c (.t .h) .n))),gl2.pull gm2 hS (.c .h (.c .h (.c (.t .h) .n))),gl3.pull gm3 hS (.c .h (.c .h (.c (.t .h) .n)))⟩) (fun v14 B hv=>?_)
 obtain⟨y15,y16,y17,rfl,y18,rfl⟩:=hv
 refine AQ (AB (.nil _) ?_)
 refine AW ?_
 refine Bk rfl .n ?_
 intro w1 hS
 have hS:=(hS.perm (Ay.perm (.c .h (.c .h (.c .h .n))))).A1
 have c9:decide (sv.state=1)=false:=by
   have h:=c3
   rw [show(AL.Ax (AL.BM V k { sv with Eg:=⟨sv.Eg.now,sv.Eg.Cy,sv.Eg.ret,y6⟩,out:=⟨sv.out.wait,0,false,sv.out.ring,sv.out.cut⟩ })).at k=_ from Vector.CE hk.1 hk.2] at h
   exact h
 refine⟨_,⟨y15,y16,y17,rfl,?ga5,rfl⟩,hS⟩
 case ga5=>exact y18.trans ((congrArg (fun X=>AI.order X k _) (Dk (ev:=ev) hk.1 hk.2 hsv hlv y5 c1 y6).1).trans ((Dk (ev:=ev) hk.1 hk.2 hsv hlv y5 c1 y6).2.2.trans ((AX c2).trans (AX c9))).symm)
theorem O0 (X:AG)(b:Int)(hF:(AE.FV X b).Fit):FC Tryz.prog 97 #[.agg X.enc.toArray, .int .i64 b] [] (fun w=>(GV 0 AG.DE w∧0 ∉ Cc [])) (fun v B=>∃ h:Hd,v = .tuple #[.agg ((AE.H2 X b).w.enc).toArray,h.val]∧h.len=(AE.H2 X b).out.length∧B = [Ac.own h 56 16 ((AE.H2 X b).out.flatMap Ing.Event.enc)]):=by
 intro w hS0 hH
 obtain⟨gl0,gm0⟩:=hH
 have hb:0≤b∧b < 6:=hF.b
 refine Al _ _ Tryz.func97 rfl rfl rfl (hS0) ?_
 refine Gs ?_
 refine B5 rfl rfl rfl (fun b1=>?_)
 refine BH rfl NS rfl (fun b2=>?_)
 refine Ga rfl (Gn (.t3 1 2 4) (Gs (Gt (AZ rfl BZ .m1 (AU.id AG.fl.len AG.fl.one) rfl) (Gm rfl (Gt (BC Um VD rfl (.cons Ad.l0 rfl rfl rfl (.cons Ad.l1 rfl rfl rfl .nil))) ?_)))))
 refine B5 rfl rfl rfl (fun b3=>?_)
 refine Ga rfl (Gn (.t3 1 4 6) (Gs (Gm rfl (Gm rfl (Gt (BV rfl) (Gt (Ai A9 rfl) (Gt (Ai Bs rfl) ?_)))))))
 refine Gt (AS C8 rfl rfl (by first | omega | exact hb.1 | exact hb.2 | (dsimp only;omega)) (by first | omega | exact hb.1 | exact hb.2 | (dsimp only;omega))) ?_
 refine Gt (Ai J2 rfl) ?_
 refine AT (AK (((Ad.l0.comp AG.l2).comp (AU.ar (n:=6) Aj.fl (by first | omega | exact hb | (dsimp only;omega)))).comp Aj.l4) rfl rfl rfl DB rfl .h) ?_
 refine Gn (.t3 1 4 6) (Gs (Gm rfl ?_))
 refine Dp Ing.Event.enc 56 16 ?_
 refine Ah rfl Uv (.c rfl (.c rfl .n)) (.c (.t .h) (.c .h .n)) (Gd _ (AE.FV X b) _ 15 rfl hb (Nat.zero_le _)) (fun v2 B hv=>?_)
 obtain⟨y3,rfl,y4,rfl⟩:=hv
 refine Gn (.t3 1 4 6) (Gs (Gm rfl ?_))
 refine Ah rfl ag (.c rfl .n) (.c .h .n) (Lv _ ((AE.FV X b).kind 15) _ (hF.Ei rfl rfl)) (fun v5 B hv=>?_)
 obtain⟨y6,y7,rfl,rfl⟩:=hv
 refine Gn (.t3 1 4 6) (CD (Gm rfl (Gt (A8 rfl rfl) (Gn (.t4 1 4 6 24) ?_))))
 refine Gc (fun c1=>?_) (fun c1=>?_)
 ·
  have c1p:=kz c1
  refine Gs (Gm rfl (Gm rfl (Gt (BC Xu ME rfl .nil) (Gt (BV rfl) (Gt (Ai A9 rfl) (Gt (Ai Bs rfl) ?_))))))
  refine Gt (AS C8 rfl rfl (by first | omega | exact hb.1 | exact hb.2 | (dsimp only;omega)) (by first | omega | exact hb.1 | exact hb.2 | (dsimp only;omega))) ?_
  refine AT (AK ((Ad.l0.comp AG.l2).comp (AU.ar (n:=6) Aj.fl (by first | omega | exact hb | (dsimp only;omega)))) rfl rfl rfl KZ rfl .h) ?_
  refine Gn (.t2 4 6) (Ap ?_)
  refine BD (N:=10) [0,1,3,7,0,16,48,112,15,511] mix (by kernel_rfl) rfl ?_
  refine Pf 0 rfl (AF rfl) (Pf 1 rfl (BV rfl) (Pf 2 rfl (Ai A9 rfl) (Pf 3 rfl (AZ rfl BZ .m0 Ad.l0 rfl) (Pf 4 rfl (AF rfl) (Pf 5 rfl (BV rfl) (Pf 6 rfl (Ai CL rfl) (Pf 7 rfl (AH rfl Dn .m0 Ad.l2 rfl rfl) ?_)))))))
  refine An 8 rfl (by kernel_rfl) ?_
  refine AT (AK (AU.id AG.fl.len AG.fl.one) rfl rfl rfl EC rfl (.t (.t .h))) ?_
  refine BO rfl ⟨?_,?_⟩
  · exact(Po rfl (AH rfl Dn .m0 Ad.l2 rfl rfl) rfl rfl (Po rfl (Ai CL rfl) rfl rfl (Po rfl (BV rfl) rfl rfl (Po rfl (AF rfl) rfl rfl (Pk (Pk (Pk (Pk As))))))))
  refine Pf 9 rfl (A0 rfl) ?_
  refine A3 (by kernel_rfl) ?_
  refine AB (.t2 4 5) ?_
  refine AA (Ab (AD ?_))
  refine AY rfl (.cell rfl .m2 (.inl ⟨(by rw [AG.fl.len];exact BZ),rfl⟩) (.tmp rfl .n)) ?_
  intro w1 hS
  have hS:=(hS.perm (Ay.perm (.c (.t .h) .n))).A1
  have hq:AE.H2 X b=_:=BB c1
  rw [AE.VH y7] at hq
  refine⟨_,⟨y3,?hv,?hl,?hB⟩,hS⟩
  case hv=>rw [hq];rfl
  case hl=>rw [hq];exact y4
  case hB=>rw [hq]
 have c1p:=kz c1
 refine Aa ?_
 refine AB (.t3 1 4 6) ?_
 refine AA (Gs (Gm rfl (Gm rfl (Gt (BV rfl) (Gt (Ai A9 rfl) (Gt (Ai Bs rfl) ?_))))))
 refine Gt (AS C8 rfl rfl (by first | omega | exact hb.1 | exact hb.2 | (dsimp only;omega)) (by first | omega | exact hb.1 | exact hb.2 | (dsimp only;omega))) ?_
 refine Ga rfl (Gn (.t3 4 6 7) (Gs (Gm rfl (Gm rfl (Gt (BV rfl) (Gt (Ai C4 rfl) ?_))))))
 refine AT (AK (((Ad.l0.comp AG.l2).comp (AU.ar (n:=6) Aj.fl (by first | omega | exact hb | (dsimp only;omega)))).comp Aj.l3) rfl rfl rfl DB rfl .h) ?_
 refine Gt (BV rfl) (Gt (Ai J2 rfl) ?_)
 refine AT (AK (((Ad.l0.comp AG.l2).comp (AU.ar (n:=6) Aj.fl (by first | omega | exact hb | (dsimp only;omega)))).comp Aj.l4) rfl rfl rfl DB rfl .h) ?_
 refine Gn (.t2 4 6) (Ap ?_)
 refine GF (fun _=> .h) (congrArg (fun q=>Ad.enc ⟨q,b,y3⟩) (AE.aD y6 hb)) ?_
 have hT2:=AE.Zr y7
 have hf2:=AE.Rp hF
 rw [hT2] at hf2
 refine AJ (Gm rfl ?_)
 refine Ah rfl Uv (.c rfl (.c rfl .n)) (.c .h (.c .h .n)) (Gd _ (⟨y6.Cw b { y6.AN.at b with room:=0,BI:=10 },b,((AE.FV X b).kind 15).out⟩:AE) _ 17 y4 hb (by decide:(0:Nat)+1≤100000)) (fun v8 B hv=>?_)
 obtain⟨y9,rfl,y10,rfl⟩:=hv
 refine Gn (.t2 4 6) (Gs (Gm rfl ?_))
 refine BE rfl VC (.c rfl .n) (.c .h (.c .h .n)) (HL _ ((⟨y6.Cw b { y6.AN.at b with room:=0,BI:=10 },b,((AE.FV X b).kind 15).out⟩:AE).kind 17) _ y10 hb hf2.br (by decide:(0:Nat)+1+1≤90000)) (fun w hS=>gl0.pull gm0 hS (.c .h (.c .h .n))) (fun v11 B hv=>?_)
 obtain⟨y12,rfl,y13,rfl⟩:=hv
 refine Gn (.t2 4 6) (Ap ?_)
 refine BD (N:=10) [0,1,3,7,0,16,48,112,15,511] mix (by kernel_rfl) rfl ?_
 refine Pf 0 rfl (AF rfl) (Pf 1 rfl (BV rfl) (Pf 2 rfl (Ai A9 rfl) (Pf 3 rfl (AZ rfl BZ .m0 Ad.l0 rfl) (Pf 4 rfl (AF rfl) (Pf 5 rfl (BV rfl) (Pf 6 rfl (Ai CL rfl) (Pf 7 rfl (AH rfl Dn .m0 Ad.l2 rfl rfl) ?_)))))))
 refine An 8 rfl (by kernel_rfl) ?_
 refine AT (AK (AU.id AG.fl.len AG.fl.one) rfl rfl rfl EC rfl (.t (.t .h))) ?_
 refine BO rfl ⟨?_,?_⟩
 · exact(Po rfl (AH rfl Dn .m0 Ad.l2 rfl rfl) rfl rfl (Po rfl (Ai CL rfl) rfl rfl (Po rfl (BV rfl) rfl rfl (Po rfl (AF rfl) rfl rfl (Pk (Pk (Pk (Pk As))))))))
 refine Pf 9 rfl (A0 rfl) ?_
 refine A3 (by kernel_rfl) ?_
 refine AB (.t2 4 5) ?_
 refine AA (Ab ?_)
 refine AY rfl (.cell rfl .m2 (.inl ⟨(by rw [AG.fl.len];exact BZ),rfl⟩) (.tmp rfl .n)) ?_
 intro w1 hS
 have hS:=(hS.perm (Ay.perm (.c (.t .h) .n))).A1
 have hq:AE.H2 X b=_:=AX c1
 rw [hT2] at hq
 refine⟨_,⟨y12,?hv,?hl,?hB⟩,hS⟩
 case hv=>rw [hq];rfl
 case hl=>rw [hq];exact y13
 case hB=>rw [hq]
theorem MQ (X:AG)(d:Int)(hw:X.DL):FC Tryz.prog 78 #[.agg X.enc.toArray, .int .i64 d] [] (fun w=>(GV 0 AG.DE w∧0 ∉ Cc [])) (fun v B=>∃ h:Hd,v = .tuple #[.agg ((AE.CW X d).1.enc).toArray,h.val, .int .i64 (AE.CW X d).2.2]∧h.len=(AE.CW X d).2.1.length∧B = [Ac.own h 56 16 ((AE.CW X d).2.1.flatMap Ing.Event.enc)]):=by
 intro w hS0 hH
 obtain⟨gl0,gm0⟩:=hH
 have hm:=Ct d
 refine Al _ _ Tryz.func78 rfl rfl rfl (hS0) ?_
 refine Gs ?_
 refine B5 rfl rfl rfl (fun b1=>?_)
 refine BH rfl NS rfl (fun b2=>?_)
 refine Ga rfl (Ga rfl (Gn (.t3 1 2 4) (CD (Gt (AZ rfl BZ .m1 (AU.id AG.fl.len AG.fl.one) rfl) ?_))))
 refine BA rfl bx (.c rfl .n) (fun w hS=>HZ _ w) ?_
 refine Gt (BT rfl) (Gn (.t4 1 2 4 16) ?_)
 refine Gc (fun c1=>?_) (fun c1=>?_)
 ·
  refine Gs (Gt (AZ rfl BZ .m1 (AU.id AG.fl.len AG.fl.one) rfl) ?_)
  refine AT (AK (AU.id AG.fl.len AG.fl.one) rfl rfl rfl EC rfl .h) ?_
  refine Ga rfl (Ga rfl (Gn (.t3 4 5 6) (Ab (AD ?_))))
  refine AY rfl (.cell rfl .m0 (.inl ⟨(by rw [AG.fl.len];exact BZ),rfl⟩) (.tmp rfl (.tmp rfl .n))) ?_
  intro w1 hS
  have hS:=hS.Cr 56 16
  have hS:=(hS.perm (Ay.perm (.c .h .n))).A1
  have hq:AE.CW X d=_:=BB c1
  refine⟨_,⟨⟨none,0,0⟩,?hv,?hl,?hB⟩,hS⟩
  case hv=>rw [hq];rfl
  case hl=>rw [hq];rfl
  case hB=>rw [hq];rfl
 have c1p:=kz c1
 refine Aa ?_
 refine AB (.t3 1 2 4) ?_
 refine AA (Gs (Ga rfl (AQ (AA (CD (Gm rfl (AQ ?_)))))))
 refine AA (Ae ?_)
 refine Bl (.t5 7 18 1 2 4) ?_
 refine Eb Ing.Event.enc 56 16 ?_
 refine Bf (.t (.t .h)) ?_
 refine Bf (.t .h) ?_
 refine DX (fun(k:Int) (s:AG × List Ing.Event) (h:Hd)=>0≤k∧k≤6∧s=AE.DZ X d k.toNat∧s.1.Bh=true∧s.1.DL∧(s.2.length:Int)≤13 * k∧h.len=s.2.length) (fun(k:Int) (s:AG × List Ing.Event) (h:Hd)=>(6 - k).toNat) (fun(k:Int) (s:AG × List Ing.Event) (h:Hd)=> [(7,h.val),(18, .int .i64 k)]) (fun(k:Int) (s:AG × List Ing.Event) (h:Hd)=> [Ac.own h 56 16 (s.2.flatMap Ing.Event.enc),Ac.box b1 35 (AG.enc s.1)]) (0) ((X,[])) (_) ?_ rfl rfl (fun k s h hI1=>?_)
 · exact⟨by omega,by omega,rfl,by simpa using c1,hw,by simp,rfl⟩
 obtain⟨hI11,hI12,hI13,hI14,hI15,hI16,hI17⟩:=hI1
 refine Gs (Gt (A8 rfl rfl) (AQ (AA (Ap ?_))))
 refine Gc (fun c2=>?_) (fun c2=>?_)
 ·
  have c2p:=kz c2
  have hbe:=AE.HM hI14 hI11 (show k < 6 by omega)
  have hfo:=hbe.B2
  refine Aa ?_
  refine AB (.t5 1 2 4 7 18) ?_
  refine AA (Ap (Ae (Gs (Gm rfl (Ga rfl (Gn (.t6 1 2 4 7 8 18) (Gs ?_)))))))
  refine Gm rfl (Gt (Ai Bs rfl) ?_)
  refine Gt (AS C8 rfl rfl (by first | omega | (dsimp only;omega) | (have:=Ct (d.tmod 3+3+k);omega)) (by first | omega | (dsimp only;omega) | (have:=Ct (d.tmod 3+3+k);omega))) ?_
  refine Gt (AZ rfl F6 .m1 (AG.l2.comp (AU.arr (n:=6) Aj.fl (by first | omega | (dsimp only;omega) | (have:=Ct (d.tmod 3+3+k);omega)) (by first | omega | (dsimp only;omega) | (have:=Ct (d.tmod 3+3+k);omega)))) rfl) ?_
  refine BH rfl ME rfl (fun b3=>?_)
  refine AT (AK (AU.id Aj.fl.len Aj.fl.one) rfl rfl rfl KZ rfl .h) ?_
  refine Gn (.t7 1 2 4 7 8 9 18) (CD (Gt (Ai IW rfl) (Gt (AH rfl Dr .m0 Aj.l1 rfl rfl) (Gt (BT rfl) (Gm rfl (Bc 28 rfl rfl (fun q=>Ai GC rfl) (Bc 28 rfl rfl (fun q=>AH (cF rfl q) A4 .m0 Aj.l5 rfl rfl) ?_)))))))
  refine Bc 28 rfl rfl (fun q=>Ag (cF rfl q) rfl) ?_
  refine Gt (BR rfl rfl (fun h=>by rw [h];rfl)) ?_
  refine Gn (.t8 1 2 4 7 8 9 18 32) ?_
  refine Gc (fun c3=>?_) (fun c3=>?_)
  ·
   have c3p:=kz c3
   refine Ba (AV (Af ?_))
   refine AB (.t5 1 2 4 7 18) ?_
   refine AA (AJ ?_)
   refine Gt (Av rfl rfl (IntWalk.i64_in _ (by first | omega | (dsimp only;omega) | (have:=Ct (d.tmod 3+3+k);omega)))) ?_
   refine Gm rfl ?_
   refine AQ (AB (.t5 1 2 4 7 18) ?_)
   refine Bt (k+1) (s) _ ?_ ?_ (.t5 7 18 1 2 4) (.cons _ (.refl _))
   · have hrs:AE.EN d k s=_:=(BB c3)
     have hrg:=AE.Fc (draw:=d) hI14 hI15 hI11 (by omega)
     rw [hrs] at hrg
     exact⟨by omega,by omega,by rw [AE.ID hI11,← hI13,hrs],hrg.1,hrg.2.1,(by have:=hrg.2.2;omega),(by first | assumption | (have hso:(AE.B9 s.1 k ((s.1.AN.at k).B2 - 1) (AE.Le d k)).out.length=1:=rfl;(try dsimp only at *);simp only [List.length_append] at *;omega))⟩
   · omega
  have c3p:=kz c3
  have hf0:0≤((s.1.AN.at k).B2 - 1)∧((s.1.AN.at k).B2 - 1) < 6:=by omega
  have hbf:=(AE.HM hI14 hf0.1 hf0.2).BI
  refine Aa ?_
  refine AB (.t7 1 2 4 7 8 9 18) ?_
  refine AA (Gs (Gt (Ai GC rfl) (Gt (AH rfl A4 .m0 Aj.l5 rfl rfl) ?_)))
  refine Gt (FX rfl rfl (IntWalk.i64_in _ (by first | omega | (dsimp only;omega) | (have:=Ct (d.tmod 3+3+k);omega)))) ?_
  refine Ga rfl (Gn (.t8 1 2 4 7 8 9 10 18) (Ap (Ap ?_)))
  refine BD (N:=16) [0,0,3,7,15,31,63,127,127,511,1023,2047,127,4223,16383,32767] mix (by kernel_rfl) rfl ?_
  refine Pf 0 rfl (AF rfl) (Pf 1 rfl (Ai Bs rfl) ?_)
  refine Pf 2 rfl (AS C8 rfl rfl (by first | omega | (dsimp only;omega) | (have:=Ct (d.tmod 3+3+k);omega)) (by first | omega | (dsimp only;omega) | (have:=Ct (d.tmod 3+3+k);omega))) ?_
  refine Pf 3 rfl (Ai IW rfl) ?_
  refine Pf 4 rfl (AH rfl Dr .m2 ((AG.l2.comp (AU.arr (n:=6) Aj.fl (by first | omega | (dsimp only;omega) | (have:=Ct (d.tmod 3+3+k);omega)) (by first | omega | (dsimp only;omega) | (have:=Ct (d.tmod 3+3+k);omega)))).comp Aj.l1) rfl rfl) ?_
  refine Pf 5 rfl (BT rfl) (Pf 6 rfl (AF rfl) (Ht 7 42 rfl rfl rfl (fun q=>AF rfl) (Ht 8 42 rfl rfl rfl (fun q=>Ai Bs rfl) ?_)))
  refine Bb 9 rfl rfl (by kernel_rfl) (HE (t:=42) rfl rfl (fun q=>by have q1:=q;(try simp at q1);exact Is (AS C8 (cF rfl q) (cF rfl q) (by first | omega | (dsimp only;omega) | (have:=Ct (d.tmod 3+3+k);omega)) (by first | omega | (dsimp only;omega) | (have:=Ct (d.tmod 3+3+k);omega))))) ?_
  refine Ht 10 42 rfl rfl rfl (fun q=>Ai C4 (cF rfl q)) ?_
  refine Bb 11 rfl rfl (by kernel_rfl) (HE (t:=42) rfl rfl (fun q=>by have q1:=q;(try simp at q1);exact Is (AH (cF rfl q) A4 .m2 ((AG.l2.comp (AU.arr (n:=6) Aj.fl (by first | omega | (dsimp only;omega) | (have:=Ct (d.tmod 3+3+k);omega)) (by first | omega | (dsimp only;omega) | (have:=Ct (d.tmod 3+3+k);omega)))).comp Aj.l3) rfl rfl))) ?_
  refine Ht 12 42 rfl rfl rfl (fun q=>Ai C4 rfl) (Ht 13 42 rfl rfl rfl (fun q=>AH (cF rfl q) A4 .m0 Aj.l3 rfl rfl) (Ht 14 42 rfl rfl rfl (fun q=>Ca (cF rfl q) (cF rfl q)) ?_))
  refine Pf 15 rfl (BR rfl rfl (fun h=>by rw [h];rfl)) ?_
  refine A3 (by kernel_rfl) ?_
  refine AB (.t8 1 2 4 7 8 10 18 51) ?_
  refine AA ?_
  refine Gc (fun c4=>?_) (fun c4=>?_)
  ·
   have c4p:=kz c4
   refine Gs (Gm rfl (Gt (Ai Bs rfl) ?_))
   refine Gt (AS C8 rfl rfl (by first | omega | (dsimp only;omega) | (have:=Ct (d.tmod 3+3+k);omega)) (by first | omega | (dsimp only;omega) | (have:=Ct (d.tmod 3+3+k);omega))) ?_
   refine Gt (Ai GC rfl) ?_
   refine AT (AK ((AG.l2.comp (AU.arr (n:=6) Aj.fl (by first | omega | (dsimp only;omega) | (have:=Ct (d.tmod 3+3+k);omega)) (by first | omega | (dsimp only;omega) | (have:=Ct (d.tmod 3+3+k);omega)))).comp Aj.l5) rfl rfl rfl DB rfl (.t (.t .h))) ?_
   refine Gn (.t5 1 2 4 7 18) (Ba (AV (Af (AA (AJ ?_)))))
   refine Gt (Av rfl rfl (IntWalk.i64_in _ (by first | omega | (dsimp only;omega) | (have:=Ct (d.tmod 3+3+k);omega)))) ?_
   refine Gm rfl ?_
   refine AQ (AB (.t5 1 2 4 7 18) ?_)
   refine Bt (k+1) ((s.1.Cw k { s.1.AN.at k with B2:=0 },s.2)) _ ?_ ?_ (.t5 7 18 1 2 4) (.cons _ (.refl _))
   · have hrs:AE.EN d k s=_:=((AX c3).trans (BB c4))
     have hrg:=AE.Fc (draw:=d) hI14 hI15 hI11 (by omega)
     rw [hrs] at hrg
     exact⟨by omega,by omega,by rw [AE.ID hI11,← hI13,hrs],hrg.1,hrg.2.1,(by have:=hrg.2.2;omega),(by first | assumption | (have hso:(AE.B9 s.1 k ((s.1.AN.at k).B2 - 1) (AE.Le d k)).out.length=1:=rfl;(try dsimp only at *);simp only [List.length_append] at *;omega))⟩
   · omega
  have c4p:=kz c4
  have hsf:=AE.LP (b:=k) (n:=AE.Le d k) hI14 hI15 (B2:=((s.1.AN.at k).B2 - 1)) hf0.1 hf0.2 c4p.1
  have hht:=AE.MB (draw:=d) hI11
  refine Aa ?_
  refine AB (.t7 1 2 4 7 8 10 18) ?_
  refine AA (Gs (Gm rfl ?_))
  refine Gt (Tj rfl rfl (by first | omega | (dsimp only;omega) | (have:=Ct (d.tmod 3+3+k);omega))) ?_
  refine Gt (Av rfl rfl (IntWalk.i64_in _ (by first | omega | (dsimp only;omega) | (have:=Ct (d.tmod 3+3+k);omega)))) ?_
  refine Gm rfl ?_
  refine Gt (Av rfl rfl (IntWalk.i64_in _ (by first | omega | (dsimp only;omega) | (have:=Ct (d.tmod 3+3+k);omega)))) ?_
  refine Gt (Tj rfl rfl (by first | omega | (dsimp only;omega) | (have:=Ct (d.tmod 3+3+k);omega))) ?_
  refine Gt (Av rfl rfl (IntWalk.i64_in _ (by first | omega | (dsimp only;omega) | (have:=Ct (d.tmod 3+3+k);omega)))) ?_
  refine Ga rfl (Gn (.t8 1 2 4 7 8 10 11 18) (Gs (Gt (AZ rfl BZ .m2 (AU.id AG.fl.len AG.fl.one) rfl) (Gm rfl (Gt (BC Um VD rfl (.cons Ad.l0 rfl rfl rfl (.cons Ad.l1 rfl rfl rfl .nil))) ?_)))))
  refine B5 rfl rfl rfl (fun b4=>?_)
  refine Ga rfl (Gn (.t8 1 2 4 7 10 11 12 18) (Gs (Gm rfl (Gm rfl (Gm rfl (Gt (BC OY Hx rfl (.cons Ing.Event.l0 rfl rfl rfl (.cons Ing.Event.l3 rfl rfl rfl (.cons Ing.Event.l5 rfl rfl rfl .nil)))) ?_))))))
  refine Dp Ing.Event.enc 56 16 ?_
  refine Ah rfl ON (.c rfl (.c rfl .n)) (.c (.t .h) (.c .h .n)) (CQ _ ⟨s.1,k,[]⟩ _ { AE.F2 14 with other:=((s.1.AN.at k).B2 - 1),n:=AE.Le d k } rfl (show 0≤k∧k < 6 by omega) (show((s.1.AN.at k).B2 - 1) < 6 by omega) (Nat.zero_le _)) (fun v3 B hv=>?_)
  obtain⟨y4,rfl,y5,rfl⟩:=hv
  refine Gn (.t8 1 2 4 7 10 11 12 18) (Ap ?_)
  refine BD (N:=16) [0,0,0,0,12,28,60,0,252,508,1,1025,3073,8191,16383,32767] mix (by kernel_rfl) rfl ?_
  refine Pf 0 rfl (AF rfl) (Pf 1 rfl (AF rfl) (Pf 2 rfl (AF rfl) (Pf 3 rfl (Ai Bs rfl) ?_)))
  refine Pf 4 rfl (AS C8 rfl rfl (by first | omega | (dsimp only;omega) | (have:=Ct (d.tmod 3+3+k);omega)) (by first | omega | (dsimp only;omega) | (have:=Ct (d.tmod 3+3+k);omega))) ?_
  refine Pf 5 rfl (Ai J2 rfl) ?_
  refine Pf 6 rfl (AH rfl A4 .m4 ((AG.l2.comp (AU.arr (n:=6) Aj.fl (by first | omega | (dsimp only;omega) | (have:=Ct (d.tmod 3+3+k);omega)) (by first | omega | (dsimp only;omega) | (have:=Ct (d.tmod 3+3+k);omega)))).comp Aj.l4) rfl rfl) ?_
  refine Pf 7 rfl (AF rfl) ?_
  refine Pf 8 rfl (FX rfl rfl (IntWalk.i64_in _ (by first | omega | (dsimp only;omega) | (have:=Ct (d.tmod 3+3+k);omega)))) ?_
  refine Pf 9 rfl (L8 rfl rfl) (Pf 10 rfl (BV rfl) (Pf 11 rfl (Ai A9 rfl) (Pf 12 rfl (Ai Bs rfl) ?_)))
  refine Pf 13 rfl (AS C8 rfl rfl (by first | omega | (dsimp only;omega) | (have:=Ct (d.tmod 3+3+k);omega)) (by first | omega | (dsimp only;omega) | (have:=Ct (d.tmod 3+3+k);omega))) ?_
  refine Pf 14 rfl (Ai J2 rfl) ?_
  refine An 15 rfl (by kernel_rfl) ?_
  refine AT (AK (((Ad.l0.comp AG.l2).comp (AU.arr (n:=6) Aj.fl (by first | omega | (dsimp only;omega) | (have:=Ct (d.tmod 3+3+k);omega)) (by first | omega | (dsimp only;omega) | (have:=Ct (d.tmod 3+3+k);omega)))).comp Aj.l4) rfl rfl rfl DB rfl .h) ?_
  refine BO rfl ⟨?_,?_⟩
  · exact(Pk (Pk (Pk (Pk (Pk (Pk (Pk (Pk (Pk (Pk (Pk (Pk (Pk (Pk (Pk As)))))))))))))))
  refine A3 (by kernel_rfl) ?_
  refine AB (.t7 1 2 4 7 10 12 18) ?_
  refine AA (Ap ?_)
  have hl1:y4.len=1:=y5
  refine AJ (Gm rfl (Gm rfl (Gt (BV rfl) (Gt (Ai CL rfl) (Gt (AH rfl Dn .m0 Ad.l2 rfl rfl) ?_)))))
  refine CM Ing.Event.fl rfl Tryz.underlying53 MJ Hx rfl Vf (by decide) (by decide) rfl rfl (fun w hS=>Src.Dq Tryz.underlying53 ((Kn.own .m1) w hS)) (by(try dsimp only at *);omega) (fun _=>(.t (.t (.t .h)))) (fun h6 h6l h6z=>?_)
  refine Ga rfl (Gn (.t7 1 2 4 7 10 12 18) (Gs (Gm rfl (Gt (BV rfl) (Gt (Ai A9 rfl) (Gt (AZ rfl BZ .m0 Ad.l0 rfl) ?_))))))
  refine AT (AK (AU.id AG.fl.len AG.fl.one) rfl rfl rfl EC rfl (.t (.t (.t (.t .h))))) ?_
  refine Gn (.t6 1 2 4 7 10 18) (Gs (Gm rfl (Gt (Ai Bs rfl) ?_)))
  refine Gt (AS C8 rfl rfl (by first | omega | (dsimp only;omega) | (have:=Ct (d.tmod 3+3+k);omega)) (by first | omega | (dsimp only;omega) | (have:=Ct (d.tmod 3+3+k);omega))) ?_
  refine Gt (Ai J2 rfl) ?_
  refine Gt (AH rfl A4 .m4 ((AG.l2.comp (AU.arr (n:=6) Aj.fl (by first | omega | (dsimp only;omega) | (have:=Ct (d.tmod 3+3+k);omega)) (by first | omega | (dsimp only;omega) | (have:=Ct (d.tmod 3+3+k);omega)))).comp Aj.l4) rfl rfl) ?_
  refine Gt (Ag rfl rfl) (Gn (.t7 1 2 4 7 10 18 102) ?_)
  refine Gc (fun c5=>?_) (fun c5=>?_)
  ·
   have c5p:=kz c5
   refine Gs (Ga rfl (Gn (.t6 1 2 4 7 10 18) (Gs (Gt (AZ rfl BZ .m4 (AU.id AG.fl.len AG.fl.one) rfl) (Gm rfl ?_)))))
   refine BE rfl fQ (.c rfl (.c rfl .n)) .n (O0 (AE.B9 s.1 k ((s.1.AN.at k).B2 - 1) (AE.Le d k)).w ((s.1.AN.at k).B2 - 1) hsf) (fun w hS=>gl0.pull gm0 hS .n) (fun v7 B hv=>?_)
   obtain⟨y8,rfl,y9,rfl⟩:=hv
   refine Gm rfl (Gt (AM rfl rfl) (Gt (AM rfl rfl) ?_))
   refine AT (AK (AU.id AG.fl.len AG.fl.one) rfl rfl rfl EC rfl (.t (.t (.t (.t (.t .h)))))) ?_
   refine Ga rfl (Gn (.t6 1 2 4 7 13 18) ?_)
   have hl2:y8.len≤12:=by rw [y9];exact(AE.Qj hsf).2.2
   refine AJ (Gm rfl (Gm rfl ?_))
   refine CM Ing.Event.fl rfl Tryz.underlying53 MJ Hx rfl Vf (by decide) (by decide) rfl rfl (fun w hS=>Src.Dq Tryz.underlying53 ((Kn.own .m0) w hS)) (by(try dsimp only at *);omega) (fun _=>(.t (.t (.t (.t .h))))) (fun h11 h11l h11z=>?_)
   refine Ga rfl ?_
   refine AQ (AB (.t5 1 2 4 7 18) ?_)
   refine AW (AA (AJ ?_))
   refine Gt (Av rfl rfl (IntWalk.i64_in _ (by first | omega | (dsimp only;omega) | (have:=Ct (d.tmod 3+3+k);omega)))) ?_
   refine Gm rfl ?_
   refine AQ (AB (.t5 1 2 4 7 18) ?_)
   refine Bt (k+1) (((AE.H2 (AE.B9 s.1 k ((s.1.AN.at k).B2 - 1) (AE.Le d k)).w ((s.1.AN.at k).B2 - 1)).w,(s.2++(AE.B9 s.1 k ((s.1.AN.at k).B2 - 1) (AE.Le d k)).out)++(AE.H2 (AE.B9 s.1 k ((s.1.AN.at k).B2 - 1) (AE.Le d k)).w ((s.1.AN.at k).B2 - 1)).out)) _ ?_ ?_ (.t5 7 18 1 2 4) (.cons _ (.cons _ (.cons _ (.cons _ (.refl _)))))
   · have hrs:AE.EN d k s=_:=((AX c3).trans ((AX c4).trans (BB c5)))
     have hrg:=AE.Fc (draw:=d) hI14 hI15 hI11 (by omega)
     rw [hrs] at hrg
     exact⟨by omega,by omega,by rw [AE.ID hI11,← hI13,hrs],hrg.1,hrg.2.1,(by have:=hrg.2.2;omega),(by first | assumption | (have hso:(AE.B9 s.1 k ((s.1.AN.at k).B2 - 1) (AE.Le d k)).out.length=1:=rfl;(try dsimp only at *);simp only [List.length_append] at *;omega))⟩
   · omega
  have c5p:=kz c5
  refine Aa ?_
  refine AB (.t5 1 2 4 7 18) ?_
  refine AW (AA (AJ ?_))
  refine Gt (Av rfl rfl (IntWalk.i64_in _ (by first | omega | (dsimp only;omega) | (have:=Ct (d.tmod 3+3+k);omega)))) ?_
  refine Gm rfl ?_
  refine AQ (AB (.t5 1 2 4 7 18) ?_)
  refine Bt (k+1) (((AE.B9 s.1 k ((s.1.AN.at k).B2 - 1) (AE.Le d k)).w,s.2++(AE.B9 s.1 k ((s.1.AN.at k).B2 - 1) (AE.Le d k)).out)) _ ?_ ?_ (.t5 7 18 1 2 4) (.cons _ (.cons _ (.cons _ (.refl _))))
  · have hrs:AE.EN d k s=_:=((AX c3).trans ((AX c4).trans (AX c5)))
    have hrg:=AE.Fc (draw:=d) hI14 hI15 hI11 (by omega)
    rw [hrs] at hrg
    exact⟨by omega,by omega,by rw [AE.ID hI11,← hI13,hrs],hrg.1,hrg.2.1,(by have:=hrg.2.2;omega),(by first | assumption | (have hso:(AE.B9 s.1 k ((s.1.AN.at k).B2 - 1) (AE.Le d k)).out.length=1:=rfl;(try dsimp only at *);simp only [List.length_append] at *;omega))⟩
  · omega
 have c2p:=kz c2
 obtain rfl:k=6:=by omega
 refine Ba (AV (AV (Af ?_)))
 refine AB (.t3 2 4 7) ?_
 refine AA (Gs (Gt (AZ rfl BZ .m1 (AU.id AG.fl.len AG.fl.one) rfl) (Gm rfl ?_)))
 refine AT (AK (AU.id AG.fl.len AG.fl.one) rfl rfl rfl EC rfl (.t (.t .h))) ?_
 refine Ga rfl (Ga rfl (Gn (.t3 4 5 6) (Ab ?_)))
 refine AY rfl (.cell rfl .m2 (.inl ⟨(by rw [AG.fl.len];exact BZ),rfl⟩) (.tmp rfl (.tmp rfl .n))) ?_
 intro w1 hS
 have hS:=(hS.perm (Ay.perm (.c .h .n))).A1
 have hq:AE.CW X d=((AE.DZ X d 6).1,(AE.DZ X d 6).2,0):=AX c1
 have hs6:s=AE.DZ X d 6:=hI13
 rw [← hs6] at hq
 refine⟨_,⟨h,?hv,?hl,?hB⟩,hS⟩
 case hv=>rw [hq];(try rfl)
 case hl=>rw [hq];exact hI17
 case hB=>rw [hq];(try rfl)
theorem EU (p:Az)(s:Ao)(hs:s.length≤9000000000000000000)(w:World):Ej Tryz.prog 62 #[.agg p.enc.toArray,BU s] w fun v w'=>v = .tuple #[.agg (Az.enc ⟨p.wait,(Page.send p s).1.shown,(Page.send p s).1.CC,(Page.send p s).1.ring,(Page.send p s).1.cut⟩).toArray, .int .i64 (Page.send p s).2]∧CB w w':=by
 refine Al [] [] Tryz.func62 rfl rfl rfl (St.start w []) ?_
 refine Gs ?_
 refine B5 rfl rfl rfl (fun b1=>?_)
 refine BH rfl Y2 rfl (fun b2=>?_)
 refine Ga rfl (Gn (.t3 1 2 4) (Ap (Ae (Gs (Gt (AZ rfl C3 .m1 (AU.id Az.fl.len Az.fl.one) rfl) ?_)))))
 refine BA rfl cN (.c rfl .n) (fun w hS=>G9 _ w) ?_
 refine Gt (BT rfl) (Ga rfl (Gn (.t4 1 2 4 6) ?_))
 refine Gc (fun c1=>?_) (fun c1=>?_)
 ·
  refine Gs (Gt (AZ rfl C3 .m1 (AU.id Az.fl.len Az.fl.one) rfl) ?_)
  refine AT (AK (AU.id Az.fl.len Az.fl.one) rfl rfl rfl Fw rfl .h) ?_
  refine Ga rfl (Gn (.t2 4 5) (Ab (AR (AD ?_))))
  refine AY rfl (.cell rfl .m0 (.inl ⟨(by rw [Az.fl.len];exact C3),rfl⟩) (.tmp rfl .n)) ?_
  intro w1 hS;refine⟨?_,hS.Ak⟩;simp only [Page.send,Page.put,Page.of,c1,↓reduceIte,Bool.false_eq_true];rfl
 have c1p:=kz c1
 have hg:=(Page.HT p).1 (by simpa using c1)
 refine Gs (Gt (Ai Kx rfl) (Gt (AH rfl Dr .m1 Az.l4 rfl rfl) (Ga rfl (Gn (.t4 1 2 4 11) ?_))))
 refine Gc (fun c2=>?_) (fun c2=>?_)
 ·
  refine Gs (Gt (AZ rfl C3 .m1 (AU.id Az.fl.len Az.fl.one) rfl) ?_)
  refine AT (AK (AU.id Az.fl.len Az.fl.one) rfl rfl rfl Fw rfl .h) ?_
  refine Ga rfl (Gn (.t2 4 5) (Ab (AR (AD ?_))))
  refine AY rfl (.cell rfl .m0 (.inl ⟨(by rw [Az.fl.len];exact C3),rfl⟩) (.tmp rfl .n)) ?_
  intro w1 hS;refine⟨?_,hS.Ak⟩;rw [show Page.send p s=(Page.of p,6) from by simp only [Page.send,c1,c2,↓reduceIte,Bool.false_eq_true]];rfl
 have c2p:=kz c2
 refine Gs (Gm rfl (Gt (BF rfl Tryz.underlying9 rfl) (Gt (Ai Ji rfl) (Gt (AH rfl CO .m1 Az.l3 rfl rfl) (Gt (BF rfl Tryz.underlying9 rfl) ?_)))))
 refine Gt (FX rfl rfl (IntWalk.i64_in _ (by first | omega | (simp at *;omega)))) ?_
 refine Gt (Cn rfl rfl) (Ga rfl (Gn (.t4 1 2 4 15) ?_))
 refine Gc (fun c3=>?_) (fun c3=>?_)
 ·
  refine Gs (Gt (Ai Kx rfl) ?_)
  refine AT (AK Az.l4 rfl rfl rfl Kd rfl (.t .h)) ?_
  refine Gn (.t2 2 4) (Gs (Gt (AZ rfl C3 .m1 (AU.id Az.fl.len Az.fl.one) rfl) ?_))
  refine AT (AK (AU.id Az.fl.len Az.fl.one) rfl rfl rfl Fw rfl .h) ?_
  refine Ga rfl (Gn (.t2 4 5) (Ab (AR (AD ?_))))
  refine AY rfl (.cell rfl .m0 (.inl ⟨(by rw [Az.fl.len];exact C3),rfl⟩) (.tmp rfl .n)) ?_
  intro w1 hS;refine⟨?_,hS.Ak⟩;simp only [Page.send,Page.put,Page.of,c1,c2,c3,↓reduceIte,Bool.false_eq_true];rfl
 have c3p:=kz c3
 refine Aa ?_
 refine AB (.t3 1 2 4) ?_
 refine AW (AA (Gs (Gt (Ai Ji rfl) (Gt (AH rfl CO .m1 Az.l3 rfl rfl) (Gm rfl ?_)))))
 refine Gt (CX rfl rfl (by first | omega | (simp at *;omega))) ?_
 refine Gt (Ai Ji rfl) ?_
 refine AT (AK Az.l3 rfl rfl rfl Em rfl (.t .h)) ?_
 refine Gn (.t2 2 4) (Gs (Gt (AZ rfl C3 .m1 (AU.id Az.fl.len Az.fl.one) rfl) ?_))
 refine AT (AK (AU.id Az.fl.len Az.fl.one) rfl rfl rfl Fw rfl .h) ?_
 refine Ga rfl (Gn (.t2 4 5) (Ab ?_))
 refine AY rfl (.cell rfl .m0 (.inl ⟨(by rw [Az.fl.len];exact C3),rfl⟩) (.tmp rfl .n)) ?_
 intro w1 hS;refine⟨?_,hS.Ak⟩;simp only [Page.send,Page.put,Page.of,c1,c2,c3,↓reduceIte,Bool.false_eq_true];rfl
theorem H0 (b:Nat)(m:Int)(h0:0 < m)(h1:m≤281474976710656):Jg Tryz.prog 186 #[.pointer (some ⟨b,0,none⟩), .int .i64 m] [Ac.box b 107 (Db.enc ⟨some ⟨b,0,none⟩,⟨none,0,0⟩⟩)] (fun v B=>∃ h',v = .tuple #[]∧h'.Z∧h'.len=0∧B = [Ac.box b 107 (Db.enc ⟨some ⟨b,0,none⟩,h'⟩),Ac.own h' 5 1 (([]:Ao).flatMap DV)]):=by
 intro w hS0
 refine Al _ _ Tryz.func186 rfl rfl rfl (hS0) ?_
 refine Ap ?_
 refine BD (N:=16) [0,1,3,7,15,31,0,127,255,0,512,1536,3584,7680,16383,32767] mix (by kernel_rfl) rfl ?_
 refine Pf 0 rfl (AF rfl) (Pf 1 rfl (BV rfl) (Pf 2 rfl (Ai E6 rfl) (Pf 3 rfl (AH rfl IT .m0 Db.l1 rfl rfl) (Pf 4 rfl (L1 rfl Tryz.underlying105 rfl) ?_))))
 refine Pf 5 rfl (XL rfl rfl (IntWalk.i64_in _ (by first | omega | (dsimp only;omega)))) ?_
 refine Pf 6 rfl (AF rfl) ?_
 refine Pf 7 rfl (Av rfl rfl (IntWalk.i64_in _ (by first | omega | (dsimp only;omega)))) ?_
 refine Pf 9 rfl (AF rfl) (Pf 10 rfl (BV rfl) (Pf 11 rfl (Ai E6 rfl) (Pf 12 rfl (AH rfl IT .m0 Db.l1 rfl rfl) (Pf 13 rfl (Ar rfl Tryz.underlying105 rfl) ?_))))
 refine An 8 rfl (by kernel_rfl) ?_
 refine S6 (ps:=#[3]) rfl Tryz.func193 (by kernel_rfl) (by kernel_rfl) (by kernel_rfl) (by kernel_rfl) Tryz.underlying105 VO rfl (by first | omega | (dsimp only;omega)) (by first | omega | (dsimp only;omega)) (fun b1 b1c b1x b1l b1k=>?_)
 refine Bu rfl ⟨?_,?_⟩
 · exact(Po rfl (Ar rfl Tryz.underlying105 rfl) rfl rfl (Po rfl (AH rfl IT .m1 Db.l1 rfl rfl) rfl rfl (Po rfl (Ai E6 rfl) rfl rfl (Po rfl (BV rfl) rfl rfl (Po rfl (AF rfl) rfl rfl (Pk (Pk (Pk (Pk (Pk (Pk (Pk (Pk As)))))))))))))
 refine An 14 rfl (by kernel_rfl) ?_
 refine KO W4 rfl Tryz.underlying105 VO rfl rfl (by first | omega | (dsimp only;omega)) (by first | omega | (dsimp only;omega)) (fun _=> .h) ?_
 refine Bu rfl ⟨?_,?_⟩
 · exact(Pk (Pk (Pk (Pk (Pk (Pk (Pk (Pk (Pk (Pk (Pk (Pk (Pk As)))))))))))))
 refine Pf 15 rfl (A0 rfl) ?_
 refine A3 (by kernel_rfl) ?_
 refine AB (.t2 0 4) ?_
 refine AA (Gs (Gm rfl (Gm rfl (Gt (BV rfl) (Gt (Ai E6 rfl) (Gt (AH rfl IT .m1 Db.l1 rfl rfl) (Gt (ZI rfl Tryz.underlying105 VO rfl rfl) ?_)))))))
 refine Gn (.t2 0 4) (AJ (Gm rfl (Gm rfl (Gt (BV rfl) (Gt (Ai E6 rfl) ?_)))))
 refine AT (AK Db.l1 rfl rfl rfl VM rfl (.t .h)) ?_
 refine AQ ?_
 refine Bk rfl .n ?_
 intro w1 hS
 have hS:=(hS.perm (Ay.perm (.c (.t .h) (.c .h .n)))).A1
 exact⟨_,⟨_,rfl,⟨by intro a h;cases h;rfl,fun _=>by dsimp only at b1k ⊢;omega⟩,rfl,rfl⟩,hS⟩
theorem Hw (b:Nat)(m:Int)(h0:0≤m)(h1:m≤281474976710656):Jg Tryz.prog 175 #[.pointer (some ⟨b,0,none⟩), .int .i64 m] [Ac.box b 107 (Db.enc ⟨none,⟨none,0,0⟩⟩)] (fun v B=>∃ h',v = .tuple #[]∧h'.Z∧h'.len=0∧B = [Ac.box b 107 (Db.enc ⟨some ⟨b,0,none⟩,h'⟩),Ac.own h' 5 1 (([]:Ao).flatMap DV)]):=by
 intro w hS0
 refine Al _ _ Tryz.func175 rfl rfl rfl (hS0) ?_
 refine Gs (Gm rfl ?_)
 refine Ah rfl bz (.c rfl .n) (.c .h .n) (DF _ _ _ (.inl rfl)) (fun v1 B hv=>?_)
 obtain⟨rfl,rfl⟩:=hv
 refine Gn (.t2 0 1) (CD (Gm rfl (Gt (A8 rfl rfl) (Gn (.t3 0 1 7) ?_))))
 refine EP rfl (by simp;omega) ?_
 refine Aa ?_
 refine AB (.t2 0 1) ?_
 refine AA (Ap ?_)
 refine BD (N:=13) [0,1,3,7,15,0,32,96,224,480,1023,0,4095] mix (by kernel_rfl) rfl ?_
 refine Pf 0 rfl (AF rfl) (Pf 1 rfl (BV rfl) (Pf 2 rfl (Ai E6 rfl) (Pf 3 rfl (AH rfl IT .m0 Db.l1 rfl rfl) (Pf 4 rfl (L1 rfl Tryz.underlying105 rfl) (Pf 5 rfl (AF rfl) (Pf 6 rfl (BV rfl) (Pf 7 rfl (Ai E6 rfl) ?_)))))))
 refine Pf 8 rfl (AH rfl IT .m0 Db.l1 rfl rfl) (Pf 9 rfl (Ar rfl Tryz.underlying105 rfl) ?_)
 refine Pf 10 rfl (FX rfl rfl (IntWalk.i64_in _ (by first | omega | (dsimp only;omega)))) ?_
 refine Pf 11 rfl (AF rfl) (Pf 12 rfl (A8 rfl rfl) ?_)
 refine A3 (by kernel_rfl) ?_
 refine AB (.t3 0 1 21) ?_
 refine AA ?_
 refine Gc (fun c1=>?_) (fun c1=>?_)
 ·
  have c1p:=kz c1
  refine AJ (Gm rfl (Gm rfl ?_))
  refine Ah rfl df (.c rfl (.c rfl .n)) (.c .h .n) (H0 _ _ (by dsimp only at *;omega) h1) (fun v2 B hv=>?_)
  obtain⟨y3,rfl,y4,y5,rfl⟩:=hv
  refine AQ ?_
  refine Bk rfl .n ?_
  intro w1 hS
  have hS:=(hS.perm (Ay.perm (.c .h (.c .h .n)))).A1
  exact⟨_,⟨_,rfl,by assumption,by assumption,rfl⟩,hS⟩
 refine Aa ?_
 refine Bk rfl .n ?_
 intro w1 hS
 have hS:=hS.Cr 5 1
 have hS:=(hS.perm (Ay.perm (.c (.t .h) (.c .h .n)))).A1
 exact⟨_,⟨_,rfl,Hd.UZ,rfl,rfl⟩,hS⟩
theorem Jj (s:Ao)(hs:s.length≤70368744000000)(w:World):Ej Tryz.prog 158 #[BU s,BU [255],BU [255,255], .int .i64 (-1)] w fun v w'=>v=BU (Page.escape s)∧CB w w':=by
 have hcl:=List.count_le_length (a:=(255:UInt8)) (l:=s)
 refine Al [] [] Tryz.func158 rfl rfl rfl (St.start w []) ?_
 refine Gs (Ga rfl (Gn (.t4 0 1 2 3) (CD (Gm rfl (Gm rfl (Gt (Bi rfl rfl) (Gm rfl ?_)))))))
 refine Bc 19 rfl rfl (fun q=>AF rfl) (Bc 19 rfl rfl (fun q=>Ag (cF rfl q) rfl) ?_)
 refine Gt (BR rfl rfl (fun h=>by rw [h];rfl)) ?_
 refine Gn (.t5 0 1 2 3 22) ?_
 refine EP rfl (by simp) ?_
 refine Aa ?_
 refine AB (.t4 0 1 2 3) ?_
 refine AA (CD (Gm rfl (Gm rfl ?_)))
 refine BA rfl aw (.c rfl (.c rfl .n)) (fun w hS=>HV _ 255 w) ?_
 refine Ga rfl (Gn (.t5 0 1 2 3 9) (Gs (Gm rfl (Gt (Ag rfl rfl) (Gn (.t6 0 1 2 3 9 28) ?_)))))
 refine Gc (fun c1=>?_) (fun c1=>?_)
 ·
  have c1p:=kz c1
  refine Gs (Gm rfl (Ga rfl (Gn (.t1 8) (Ab (AD ?_)))))
  refine AY rfl (.tmp rfl .n) ?_
  intro w1 hS;refine⟨?_,hS.Ak⟩;have e:s.count 255=0:=by simp at c1;omega
  rw [Page.M6 _ e];rfl
 have c1p:=kz c1
 refine Gs (Gm rfl (Gt (A8 rfl rfl) (Gm rfl (Bc 32 rfl rfl (fun q=>AF rfl) (Bc 32 rfl rfl (fun q=>AF rfl) (Bc 32 rfl rfl (fun q=>A8 (cF rfl q) (cF rfl q)) ?_))))))
 refine Gt (BR rfl rfl (fun h=>by rw [h];rfl)) ?_
 refine Gn (.t6 0 1 2 3 9 36) ?_
 refine HA rfl rfl ?_
 refine AJ (Gm rfl (Ga rfl (Gn (.t4 0 1 2 3) (Gs ?_))))
 refine BH rfl Ug rfl (fun b1=>?_)
 refine Dp DV 5 1 ?_
 refine AQ (AA (Gs (Gm rfl (Gt (BF rfl Tryz.underlying9 rfl) (Gm rfl (Gm rfl (Gt (BF rfl Tryz.underlying9 rfl) ?_)))))))
 refine Gm rfl (Gt (BF rfl Tryz.underlying9 rfl) ?_)
 refine Gt (FX rfl rfl (IntWalk.i64_in _ (by(try simp only [List.length_cons,List.length_nil]);omega))) ?_
 refine Gt (XL rfl rfl (IntWalk.i64_in _ (by(try simp only [List.length_cons,List.length_nil]);omega))) ?_
 refine Gt (Av rfl rfl (IntWalk.i64_in _ (by(try simp only [List.length_cons,List.length_nil]);omega))) ?_
 refine Ah rfl dr (.c rfl (.c rfl .n)) (.c (.t .h) .n) (Hw _ _ (by simp only [List.length_cons,List.length_nil];omega) (by simp only [List.length_cons,List.length_nil];omega)) (fun v1 B hv=>?_)
 obtain⟨y2,rfl,y3,y4,rfl⟩:=hv
 refine Gn (.t5 0 1 2 3 10) (Gs (Ga rfl (AQ (AA (CD (Gm rfl (Gt (BF rfl Tryz.underlying9 rfl) ?_)))))))
 refine Gt (Cn rfl rfl) (Gn (.t7 0 1 2 3 10 11 51) ?_)
 refine HA rfl (by simp) ?_
 refine Gs (Gm rfl (Gm rfl (Gn (.t7 0 1 2 10 11 52 53) (Ae ?_))))
 refine Bl (.t7 11 53 0 1 2 10 52) ?_
 refine Bf (.t .h) ?_
 refine Bf (.t .h) ?_
 refine N4 (fun(k:Int) (start:Int) (x:Ao) (p:Option Addr) (h:Hd)=>Page.RF s (s.count 255) k start x∧(p=none∨p=some ⟨b1,0,none⟩)∧h.Z∧h.len=x.length) (fun(k:Int) (start:Int) (x:Ao) (p:Option Addr) (h:Hd)=>((s.count 255:Int) - k).toNat) (fun(k:Int) (start:Int) (x:Ao) (p:Option Addr) (h:Hd)=> [(11, .int .i64 start),(53, .int .i64 k)]) (fun(k:Int) (start:Int) (x:Ao) (p:Option Addr) (h:Hd)=> [Ac.box b1 107 (Db.enc ⟨p,h⟩),Ac.own h 5 1 (x.flatMap DV)]) (0) (0) ([]) (_) (_) ?_ rfl rfl (fun k start x p h hI1=>?_)
 · exact⟨Page.RF.start rfl, .inr rfl,by assumption,by assumption⟩
 obtain⟨hI11,hp,hz,hl⟩:=hI1;have hk0:=hI11.k0;have hs0:=hI11.s0;have hs1:=hI11.s1;have hxl:=hI11.xl
 refine Gs (Gt (A8 rfl rfl) (AQ (AA (Ap ?_))))
 refine Gc (fun c2=>?_) (fun c2=>?_)
 ·
  have c2p:=kz c2
  obtain⟨i,hi,hlt,hR⟩:=hI11.idx (by omega)
  rw [← hi] at hR hlt
  refine Aa ?_
  refine AB (.t7 0 1 2 10 11 52 53) ?_
  refine AA (Ap (Ae (Gs (Gm rfl (Gm rfl (Gm rfl ?_))))))
  refine Gt (Gx Tryz.underlying9 rfl rfl (by(try simp only [List.length_cons,List.length_nil]);omega) (by(try simp only [List.length_cons,List.length_nil]);omega)) ?_
  refine Gm rfl ?_
  refine BA rfl XD (.c rfl (.c rfl .n)) (fun w hS=>FU _ 255 w) ?_
  refine Gt (Av rfl rfl (IntWalk.i64_in _ (by(try simp only [List.length_cons,List.length_nil]);omega))) ?_
  refine Ga rfl (Gn (.t8 0 1 2 10 11 12 52 53) (Gs (Gm rfl (Gm rfl (Gm rfl ?_)))))
  refine Gt (Zi Tryz.underlying9 rfl rfl rfl (by(try simp only [List.length_cons,List.length_nil]);omega) (by(try simp only [List.length_cons,List.length_nil]);omega) (by(try simp only [List.length_cons,List.length_nil]);omega)) ?_
  refine Ah rfl Pq (.c rfl (.c rfl .n)) (.c .h (.c .h .n)) (BL _ _ _ _ (by assumption) (by assumption) (by assumption) _ (by(try simp only [List.length_drop,List.length_take,List.length_append,List.length_cons,List.length_nil]);omega)) (fun v6 B hv=>?_)
  obtain⟨y7,y8,rfl,y9,y10,y11,rfl⟩:=hv
  refine Gn (.t7 0 1 2 10 12 52 53) (Gs (Gm rfl ?_))
  refine Ah rfl Pq (.c rfl (.c rfl .n)) (.c .h (.c .h .n)) (BL _ _ _ _ (by assumption) (by assumption) (by assumption) _ (by(try simp only [List.length_drop,List.length_take,List.length_append,List.length_cons,List.length_nil]);omega)) (fun v12 B hv=>?_)
  obtain⟨y13,y14,rfl,y15,y16,y17,rfl⟩:=hv
  refine Gn (.t7 0 1 2 10 12 52 53) (AJ (Gm rfl (Gm rfl (Gt (BF rfl Tryz.underlying9 rfl) ?_))))
  refine Gt (Av rfl rfl (IntWalk.i64_in _ (by(try simp only [List.length_cons,List.length_nil]);omega))) ?_
  refine Ga rfl ?_
  refine AQ (AB (.t7 0 1 2 10 11 52 53) ?_)
  refine AW (AA (AJ ?_))
  refine Gt (Av rfl rfl (IntWalk.i64_in _ (by(try simp only [List.length_cons,List.length_nil]);omega))) ?_
  refine Gm rfl ?_
  refine AQ (AB (.t7 0 1 2 10 11 52 53) ?_)
  refine Ih (k+1) _ _ _ _ ?_ ?_ (.t7 11 53 0 1 2 10 52) (.refl _)
  · exact⟨hR,by assumption,by assumption,by assumption⟩
  · omega
 have c2p:=kz c2
 refine Ba (AV (AV (Af ?_)))
 refine AB (.t3 0 10 11) ?_
 refine AA (Gs (Gm rfl (Gm rfl ?_)))
 refine Gt (Gx Tryz.underlying9 rfl rfl (by(try simp only [List.length_cons,List.length_nil]);omega) (by(try simp only [List.length_cons,List.length_nil]);omega)) ?_
 refine Ah rfl Pq (.c rfl (.c rfl .n)) (.c .h (.c .h .n)) (BL _ _ _ _ (by assumption) (by assumption) (by assumption) _ (by(try simp only [List.length_drop,List.length_take,List.length_append,List.length_cons,List.length_nil]);omega)) (fun v18 B hv=>?_)
 obtain⟨y19,y20,rfl,y21,y22,y23,rfl⟩:=hv
 refine Gn (.t1 10) (Gs ?_)
 refine Ah rfl Z4 (.c rfl .n) (.c .h (.c .h .n)) (Cv _ _ _ _ (by assumption) (by assumption) (by(try simp only [List.length_append,List.length_drop]);omega)) (fun v24 B hv=>?_)
 obtain⟨rfl,rfl⟩:=hv
 refine Ga rfl (Gn (.t1 8) (Ab ?_))
 refine AY rfl (.tmp rfl .n) ?_
 intro w1 hS;refine⟨?_,hS.Ak⟩;rw [← hI11.done (by omega)];rfl
theorem Ic (s:Ao)(hs:s.length≤70368744000000)(w:World):Ej Tryz.prog 126 #[BU s,BU [255],BU [255,255]] w fun v w'=>v=BU (Page.escape s)∧CB w w':=by
 refine Al [] [] Tryz.func126 rfl rfl rfl (St.start w []) ?_
 refine Gs (Ga rfl (Gn (.t3 0 1 2) (Gs (Gm rfl (Gm rfl (Gm rfl ?_))))))
 refine BA rfl da (.c rfl (.c rfl (.c rfl (.c rfl .n)))) (fun w hS=>Jj _ (by first | assumption | omega) w) ?_
 refine Ga rfl (Gn (.t1 6) (Ab ?_))
 refine AY rfl (.tmp rfl .n) ?_
 intro w1 hS;refine⟨?_,hS.Ak⟩;rfl
theorem LR (s:Ao)(hs:s.length≤70368744000000)(w:World):Ej Tryz.prog 98 #[BU s] w fun v w'=>v=BU (Page.escape s)∧CB w w':=by
 refine Al [] [] Tryz.func98 rfl rfl rfl (St.start w []) ?_
 refine Gs (Ga rfl (Gn (.t1 0) (Gs (Gm rfl ?_))))
 refine BA rfl cj (.c rfl (.c rfl (.c rfl .n))) (fun w hS=>Ic _ (by first | assumption | omega) w) ?_
 refine Ga rfl (Gn (.t1 2) (Ab ?_))
 refine AY rfl (.tmp rfl .n) ?_
 intro w1 hS;refine⟨?_,hS.Ak⟩;rfl
theorem NQ {t0:Nat}(p:Az)(qs:List Ao)(top:Int)(hs:∀ s∈qs,s.length≤70368744000000):FC Tryz.prog 83 #[.agg p.enc.toArray, .int .i64 top] [] (fun w=>Rd w p.wait t0 1 (qs.flatMap A7)∧p.wait.len≤p.wait.cap) (fun v B=>((!Page.Bh p || decide (top < 0) || decide (200 < top))=true∧v = .tuple #[.agg p.enc.toArray, .int .i64 2]∧B = [])∨((!Page.Bh p || decide (top < 0) || decide (200 < top))=false∧∃(T:Nat) (h' g:Hd) (zs:List Ao),v = .tuple #[.agg (Az.enc ⟨h',(Page.BX top qs (Page.of p)).1.shown,(Page.BX top qs (Page.of p)).1.CC,(Page.BX top qs (Page.of p)).1.ring,(Page.BX top qs (Page.of p)).1.cut⟩).toArray, .int .i64 0]∧h'.len=(Page.BX top qs (Page.of p)).2.length∧cU T h' (Page.BX top qs (Page.of p)).2 t0 p.wait qs 9 g zs∧B = [Ac.own g 9 1 (zs.flatMap A7)])):=by
 intro w hS0 hH
 obtain⟨r0,k0⟩:=hH
 have hl0:=r0.LO DO (by decide)
 refine Al _ _ Tryz.func83 rfl rfl rfl (hS0) ?_
 refine Gs ?_
 refine B5 rfl rfl rfl (fun b1=>?_)
 refine BH rfl Y2 rfl (fun b2=>?_)
 refine Ga rfl (Gn (.t3 1 2 4) (CD (Gt (AZ rfl C3 .m1 (AU.id Az.fl.len Az.fl.one) rfl) ?_)))
 refine BA rfl cN (.c rfl .n) (fun w hS=>G9 _ w) ?_
 refine Gt (BT rfl) (Gm rfl (Bc 10 rfl rfl (fun q=>AF rfl) (Bc 10 rfl rfl (fun q=>A8 (cF rfl q) rfl) ?_)))
 refine Gt (BR rfl rfl (fun h=>by rw [h];rfl)) ?_
 refine Gm rfl (Bc 14 rfl rfl (fun q=>AF rfl) (Bc 14 rfl rfl (fun q=>Cn (cF rfl q) rfl) ?_))
 refine Gt (BR rfl rfl (fun h=>by rw [h];rfl)) ?_
 refine Gn (.t4 1 2 4 17) ?_
 refine Gc (fun c1=>?_) (fun c1=>?_)
 ·
  refine Gs (Gt (AZ rfl C3 .m1 (AU.id Az.fl.len Az.fl.one) rfl) ?_)
  refine AT (AK (AU.id Az.fl.len Az.fl.one) rfl rfl rfl Fw rfl .h) ?_
  refine Ga rfl (Gn (.t2 4 5) (Ab (AD ?_)))
  refine AY rfl (.cell rfl .m0 (.inl ⟨(by rw [Az.fl.len];exact C3),rfl⟩) (.tmp rfl .n)) ?_
  intro w1 hS
  have hS:=(hS.perm (Ay.perm .n)).A1
  exact⟨_, .inl ⟨c1,rfl,rfl⟩,hS⟩
 have c1p:=kz c1
 have hgd:Page.Bh p=true∧0≤top∧top≤200:=by simp at c1;exact⟨c1.1.1,by omega,by omega⟩
 refine Aa ?_
 refine AB (.t3 1 2 4) ?_
 refine AA (Ap (Ae ?_))
 refine Bl (.t3 1 2 4) ?_
 refine Eb A7 9 1 ?_
 refine Bf (.t (.t .h)) ?_
 refine Bf (.t .h) ?_
 refine Y4 (fun(rest:List Ao) (sh:Int) (ak:Bool) (ring:Ao) (ct:Bool) (T:Nat) (hx:Hd) (g:Hd) (zs:List Ao)=>Page.FI top qs (Page.of p) rest hx ⟨sh,ak,ring,ct⟩∧cU T hx rest t0 p.wait qs 9 g zs) (fun(rest:List Ao) (sh:Int) (ak:Bool) (ring:Ao) (ct:Bool) (T:Nat) (hx:Hd) (g:Hd) (zs:List Ao)=>rest.length) (fun(rest:List Ao) (sh:Int) (ak:Bool) (ring:Ao) (ct:Bool) (T:Nat) (hx:Hd) (g:Hd) (zs:List Ao)=> []) (fun(rest:List Ao) (sh:Int) (ak:Bool) (ring:Ao) (ct:Bool) (T:Nat) (hx:Hd) (g:Hd) (zs:List Ao)=> [Ac.own g 9 1 (zs.flatMap A7),Ac.box b1 65 (Az.enc ⟨hx,sh,ak,ring,ct⟩)]) (qs) (p.shown) (p.CC) (p.ring) (p.cut) (t0) (p.wait) (_) (_) ?_ rfl rfl (fun rest sh ak ring ct T hx g zs hI1=>?_)
 · exact⟨Page.FI.start hgd.1 hl0 hs, .inl ⟨rfl,rfl,rfl,rfl,rfl⟩⟩
 obtain⟨hI11,hor⟩:=hI1;have hl:=hI11.hl;have hn:=hI11.n;have hr:=hI11.ring;have hs0:=hI11.s0;have hs1:=hI11.s1;dsimp only at hr hs0 hs1
 refine CD (Gt (Ai Jm rfl) (Gt (AH rfl F9 .m1 Az.l0 rfl rfl) (Gt (Ar rfl Tryz.underlying52 rfl) (Gt (Cn rfl rfl) (Gm rfl (Bo 23 rfl rfl (fun q=>Ai Q1 rfl) (Bo 23 rfl rfl (fun q=>AH (Bj rfl q) Dr .m1 Az.l2 rfl rfl) ?_)))))))
 refine Bo 23 rfl rfl (fun q=>BT (Bj rfl q)) (Gt (BK rfl rfl (fun h=>h)) (Gm rfl (Bo 28 rfl rfl (fun q=>Ai Kx rfl) (Bo 28 rfl rfl (fun q=>AH (Bj rfl q) Dr .m1 Az.l4 rfl rfl) (Bo 28 rfl rfl (fun q=>BT (Bj rfl q)) (Gt (BK rfl rfl (fun h=>h)) (Gn (.t4 1 2 4 32) ?_)))))))
 refine Gc (fun c2=>?_) (fun c2=>?_)
 ·
  have c2p:=kz c2
  have hc3:0 < rest.length∧ak=false∧ct=false:=by simp at c2;exact⟨by omega,c2.1.2,c2.2⟩
  obtain⟨hc0,hak,hct⟩:=hc3
  obtain⟨q,r,rfl⟩:=Bg.U7 (qs:=rest) (by omega)
  refine Aa ?_
  refine AB (.t3 1 2 4) ?_
  refine AA (Ae (CD (Gm rfl (Gt (Cn rfl rfl) (Gm rfl (Bo 35 rfl rfl (fun q=>Ai MW rfl) (Bo 35 rfl rfl (fun q=>AH (Bj rfl q) A4 .m1 Az.l1 rfl rfl) ?_)))))))
  refine Bo 35 rfl rfl (fun q=>AF rfl) (Bo 35 rfl rfl (fun q=>CV (Bj rfl q) (Bj rfl q)) (Gt (BK rfl rfl (fun h=>h)) (Gn (.t4 1 2 4 40) ?_)))
  refine Gc (fun c3=>?_) (fun c3=>?_)
  ·
   have c3p:=kz c3
   refine Gs (Gt (Ai Q1 rfl) ?_)
   refine AT (AK Az.l2 rfl rfl rfl Kd rfl (.t .h)) ?_
   refine Gn (.t2 2 4) (Gs (Gt (AZ rfl C3 .m1 (AU.id Az.fl.len Az.fl.one) rfl) ?_))
   refine BA rfl XY (.c rfl (.c rfl .n)) (fun w hS=>EU _ _ (by first | omega | (have h1:=Page.Hn ((q :: r).getD (0:Int).toNat []);have h2:=hI11.len ((q :: r).getD (0:Int).toNat []) (by simp);simp only [List.length_append,List.length_cons,List.length_nil] at *;omega)) w) ?_
   refine Gm rfl (Gt (AM rfl rfl) (Gt (AM rfl rfl) ?_))
   refine AT (AK (AU.id Az.fl.len Az.fl.one) rfl rfl rfl Fw rfl (.t .h)) ?_
   refine Gn (.t2 2 4) (Ba (AV ?_))
   refine Jz rfl ?_
   refine AV (Af (AA (Gs (Gt (AZ rfl C3 .m1 (AU.id Az.fl.len Az.fl.one) rfl) ?_))))
   refine AT (AK (AU.id Az.fl.len Az.fl.one) rfl rfl rfl Fw rfl (.t (.t .h))) ?_
   refine Ga rfl (Gn (.t2 4 5) (Ab ?_))
   refine AY rfl (.cell rfl .m2 (.inl ⟨(by rw [Az.fl.len];exact C3),rfl⟩) (.tmp rfl .n)) ?_
   intro w1 hS
   have hS:=(hS.perm (Ay.perm (.c .h .n))).A1
   have e:=hI11.asks hak hct c3
   exact⟨_, .inr ⟨c1,T,hx,g,zs,(by first | (rw [e];done) | (rw [e];rfl)),(by rw [e];exact hI11.hl),(by rw [e];exact hor),rfl⟩,hS⟩
  have c3p:=kz c3
  refine Aa ?_
  refine AB (.t3 1 2 4) ?_
  refine AA (Gs (Gt (Ai Jm rfl) (Gt (AH rfl F9 .m1 Az.l0 rfl rfl) ?_)))
  refine Gt (Bp IM (by decide) (bc hor (Kn.IX r0) (Kn.own .m0)) rfl rfl (by omega) (by omega)) ?_
  refine Gt (C9 rfl CO (bc hor (Kn.IX r0) (Kn.own .m0)) (by simp)) ?_
  refine Ga rfl (Gn (.t4 1 2 4 6) (Gs (Gt (Ai Jm rfl) (Gt (AH rfl F9 .m1 Az.l0 rfl rfl) ?_))))
  refine Gt (R5 Tryz.underlying52 Em rfl rfl (by decide) (by first | omega | (have h1:=Page.Hn ((q :: r).getD (0:Int).toNat []);have h2:=hI11.len ((q :: r).getD (0:Int).toNat []) (by simp);simp only [List.length_append,List.length_cons,List.length_nil] at *;omega))) ?_
  refine BE rfl VN (.c rfl .n) .n (Bz _ r (by simp only [List.length_cons] at *;omega)) (fun w hS=>by have h:=(Kn.cut (l:=1) (r:=hx.len) DO (bc hor (Kn.IX r0) (Kn.own .m0)) (by omega) (Nat.le_refl _) (eF hor (Wn.of k0) (Wn.own .m0))) w hS;rw [show(((q :: r).take hx.len).drop 1)=r from by rw [List.take_of_length_le (by simp only [List.length_cons] at *;omega)];rfl] at h;exact h) (fun v2 B hv=>?_)
  obtain⟨y3,rfl,y4,rfl⟩:=hv
  refine Gt (Ai Jm rfl) ?_
  refine AT (AK Az.l0 rfl rfl rfl N1 rfl (.t (.t .h))) ?_
  refine Gn (.t4 1 2 4 6) (Gs (Gt (Ai MW rfl) (Gt (AH rfl A4 .m2 Az.l1 rfl rfl) ?_)))
  refine Gt (Av rfl rfl (IntWalk.i64_in _ (by first | omega | (have h1:=Page.Hn ((q :: r).getD (0:Int).toNat []);have h2:=hI11.len ((q :: r).getD (0:Int).toNat []) (by simp);simp only [List.length_append,List.length_cons,List.length_nil] at *;omega)))) ?_
  refine Gt (Lb rfl rfl) (Gt (Ai MW rfl) ?_)
  refine AT (AK Az.l1 rfl rfl rfl DB rfl (.t (.t .h))) ?_
  refine Gn (.t4 1 2 4 6) ?_
  refine BD (N:=9) [0,0,2,6,15,31,63,63,127] mix (by kernel_rfl) rfl ?_
  refine Pf 0 rfl (AZ rfl C3 .m2 (AU.id Az.fl.len Az.fl.one) rfl) (Pf 1 rfl (AF rfl) ?_)
  refine Bb 2 rfl rfl (by kernel_rfl) (L9 (K9 (EB ez (.c rfl .n) (fun w hS=>LR _ (hI11.len _ (by simp)) w)))) ?_
  refine Pf 3 rfl (CX rfl rfl (by first | omega | (have h1:=Page.Hn ((q :: r).getD (0:Int).toNat []);have h2:=hI11.len ((q :: r).getD (0:Int).toNat []) (by simp);simp only [List.length_append,List.length_cons,List.length_nil] at *;omega))) ?_
  refine Bb 4 rfl rfl (by kernel_rfl) (L9 (K9 (EB XY (.c rfl (.c rfl .n)) (fun w hS=>EU _ _ (by first | omega | (have h1:=Page.Hn ((q :: r).getD (0:Int).toNat []);have h2:=hI11.len ((q :: r).getD (0:Int).toNat []) (by simp);simp only [List.length_append,List.length_cons,List.length_nil] at *;omega)) w)))) ?_
  refine Pf 5 rfl (AF rfl) (Pf 6 rfl (AM rfl rfl) (Pf 7 rfl (AM rfl rfl) ?_))
  refine An 8 rfl (by kernel_rfl) ?_
  refine AT (AK (AU.id Az.fl.len Az.fl.one) rfl rfl rfl Fw rfl (.t (.t .h))) ?_
  refine BO rfl ⟨?_,?_⟩
  · exact(Po rfl (AM rfl rfl) rfl rfl (Pk (Pk (Pk (Pk (Pk (Pk (Pk As))))))))
  refine A3 (by kernel_rfl) ?_
  refine AB (.t3 1 2 4) ?_
  refine AW ?_
  refine CI (.c .h (.c (.t .h) (.c (.t .h) .n))) ?_
  refine Cf ?_
  refine WI (r) _ _ _ _ (9) _ _ (r) ?_ ?_ (.t3 1 2 4) (.refl _)
  · exact⟨hI11.next hak hct c3 (by assumption) rfl, .inr ⟨rfl,rfl,rfl⟩⟩
  · simp only [List.length_cons];omega
 refine Ba (AV (AV (Af ?_)))
 refine AB (.t2 2 4) ?_
 refine AA (Gs (Gt (AZ rfl C3 .m1 (AU.id Az.fl.len Az.fl.one) rfl) ?_))
 refine AT (AK (AU.id Az.fl.len Az.fl.one) rfl rfl rfl Fw rfl (.t (.t .h))) ?_
 refine Ga rfl (Gn (.t2 4 5) (Ab ?_))
 refine AY rfl (.cell rfl .m2 (.inl ⟨(by rw [Az.fl.len];exact C3),rfl⟩) (.tmp rfl .n)) ?_
 intro w1 hS
 have hS:=(hS.perm (Ay.perm (.c .h .n))).A1
 have e:=hI11.dD c2
 exact⟨_, .inr ⟨c1,T,hx,g,zs,(by first | (rw [e];done) | (rw [e];rfl)),(by rw [e];exact hI11.hl),(by rw [e];exact hor),rfl⟩,hS⟩
theorem Dz (b:Nat)(V:AL)(ls:Vector BG 4)(ev:List Ing.Event)(n m:Nat)(hF:AI.Fit (A5 V ls ev) n m)(hn:n≤600000)(hm:m≤600000):FC Tryz.prog 65 #[.pointer (some ⟨b,0,none⟩)] [Ac.box b 101 (AL.enc V),Ac.D7 (CJ 9 (AL.Ax V) ls),Ac.own (AL.last V) 56 16 ((ev).flatMap Ing.Event.enc)] (fun w=>(GV 2 Fa w∧2 ∉ Cc [Ac.box b 101 (AL.enc V),Ac.D7 (CJ 9 (AL.Ax V) ls),Ac.own (AL.last V) 56 16 ((ev).flatMap Ing.Event.enc)])∧(GV 0 AG.DE w∧0 ∉ Cc [Ac.box b 101 (AL.enc V),Ac.D7 (CJ 9 (AL.Ax V) ls),Ac.own (AL.last V) 56 16 ((ev).flatMap Ing.Event.enc)])∧(G0 7 w∧7 ∉ Cc [Ac.box b 101 (AL.enc V),Ac.D7 (CJ 9 (AL.Ax V) ls),Ac.own (AL.last V) 56 16 ((ev).flatMap Ing.Event.enc)])∧(G0 8 w∧8 ∉ Cc [Ac.box b 101 (AL.enc V),Ac.D7 (CJ 9 (AL.Ax V) ls),Ac.own (AL.last V) 56 16 ((ev).flatMap Ing.Event.enc)])) (fun v B=>∃ V' ls' ev',v = .tuple #[]∧A5 V' ls' ev'=AI.BX (A5 V ls ev)∧B = [Ac.box b 101 (AL.enc V'),Ac.D7 (CJ 9 (AL.Ax V') ls'),Ac.own (AL.last V') 56 16 ((ev').flatMap Ing.Event.enc)]):=by
 intro w hS0 hH
 obtain⟨⟨gl0,gm0⟩,⟨gl1,gm1⟩,⟨gl2,gm2⟩,⟨gl3,gm3⟩⟩:=hH
 refine Al _ _ Tryz.func65 rfl rfl rfl (hS0) ?_
 refine Gs (Gm rfl (AQ (AA (Ae ?_))))
 refine Bl (.t2 5 0) ?_
 refine Bf (.t (.t .h)) ?_
 refine Bf (.t (.t .h)) ?_
 refine Bf (.t (.t .h)) ?_
 refine Il (fun(k:Int) (V1:AL) (ls1:Vector BG 4) (ev1:List Ing.Event)=>0≤k∧k≤5∧(A5 V ls ev).BX=(A5 V1 ls1 ev1).Hm (5 - k).toNat∧AI.Fit (A5 V1 ls1 ev1) (n+44 * k.toNat) (m+44 * k.toNat)) (fun(k:Int) (V1:AL) (ls1:Vector BG 4) (ev1:List Ing.Event)=>(5 - k).toNat) (fun(k:Int) (V1:AL) (ls1:Vector BG 4) (ev1:List Ing.Event)=> [(5, .int .i64 k)]) (fun(k:Int) (V1:AL) (ls1:Vector BG 4) (ev1:List Ing.Event)=> [Ac.box b 101 (AL.enc V1),Ac.D7 (CJ 9 (AL.Ax V1) ls1),Ac.own (AL.last V1) 56 16 (ev1.flatMap Ing.Event.enc)]) (0) (V) (ls) (ev) ?_ rfl rfl (fun k V1 ls1 ev1 hI1=>?_)
 · exact⟨by omega,by omega,rfl,hF⟩
 obtain⟨hI11,hI12,hI13,hI14⟩:=hI1
 refine Gs (Gt (A8 rfl rfl) (AQ (AA (Ap ?_))))
 refine Gc (fun c1=>?_) (fun c1=>?_)
 ·
  have c1p:=kz c1
  refine Aa ?_
  refine AB (.t2 0 5) ?_
  refine AA (Ap (Ae (Gs (Ga rfl (AQ (AA (CD ?_)))))))
  refine Gm rfl (AQ (AA (Ae ?_)))
  refine Bl (.t4 2 7 0 5) ?_
  refine Bf (.t (.t .h)) ?_
  refine Bf (.t (.t .h)) ?_
  refine Bf (.t (.t .h)) ?_
  refine N4 (fun(i:Int) (V2:AL) (ls2:Vector BG 4) (ev2:List Ing.Event) (c:Bool)=>0≤i∧i≤4∧((A5 V2 ls2 ev2),c)=(A5 V1 ls1 ev1).Ch i.toNat) (fun(i:Int) (V2:AL) (ls2:Vector BG 4) (ev2:List Ing.Event) (c:Bool)=>(4 - i).toNat) (fun(i:Int) (V2:AL) (ls2:Vector BG 4) (ev2:List Ing.Event) (c:Bool)=> [(2, .bool c),(7, .int .i64 i)]) (fun(i:Int) (V2:AL) (ls2:Vector BG 4) (ev2:List Ing.Event) (c:Bool)=> [Ac.box b 101 (AL.enc V2),Ac.D7 (CJ 9 (AL.Ax V2) ls2),Ac.own (AL.last V2) 56 16 (ev2.flatMap Ing.Event.enc)]) (0) (V1) (ls1) (ev1) (false) ?_ rfl rfl (fun i V2 ls2 ev2 c hI2=>?_)
  · exact⟨by omega,by omega,rfl⟩
  obtain⟨hI21,hI22,hI23⟩:=hI2
  refine Gs (Gt (A8 rfl rfl) (AQ (AA (Ap ?_))))
  refine Gc (fun c2=>?_) (fun c2=>?_)
  ·
   have c2p:=kz c2
   have hi:0≤i∧i < 4:=⟨by omega,by omega⟩
   have hF2:=QT hI14 hi.1 (by omega) hI23
   refine Aa ?_
   refine AB (.t4 0 2 5 7) ?_
   refine AA (Ap (Ae (Gs (Gm rfl (Ga rfl (Gn (.t5 0 2 3 5 7) (Gs ?_)))))))
   refine Gm rfl (Gm rfl (Gt (BV rfl) (Gt (Ai HI rfl) ?_)))
   refine Gt (AS RV rfl rfl (by first | omega | exact hi.1 | exact hi.2) (by first | omega | exact hi.1 | exact hi.2)) ?_
   refine Ga rfl (Gn (.t5 0 2 4 5 7) (CD (Gm rfl (Gt (BV rfl) (Gt (Ai JF rfl) ?_)))))
   refine Gt (AH rfl A4 .m0 ((AL.l1.comp (AU.ar (n:=4) A2.fl (by first | omega | exact hi))).comp A2.l0) rfl rfl) ?_
   refine Gt (Ag rfl rfl) (Gn (.t6 0 2 4 5 7 19) ?_)
   refine Gc (fun c3=>?_) (fun c3=>?_)
   ·
    have c3p:=kz c3
    refine Ba (AV (Af ?_))
    refine AB (.t4 0 2 5 7) ?_
    refine AA (AJ ?_)
    refine Gt (Av rfl rfl (IntWalk.i64_in _ (by first | omega | exact hi.1 | exact hi.2))) ?_
    refine Gm rfl ?_
    refine AQ (AB (.t4 0 2 5 7) ?_)
    refine Ih (i+1) _ _ _ _ ?_ ?_ (.t4 2 7 0 5) (.refl _)
    · exact⟨by omega,by omega,((LQ hi.1 hi.2 hI23).trans (BB c3)).symm⟩
    · omega
   have c3p:=kz c3
   refine Aa ?_
   refine AB (.t5 0 2 4 5 7) ?_
   refine AA ?_
   refine Bf (.t (.t .h)) ?_
   refine Bf (.t (.t .h)) ?_
   refine Bf (.t (.t .h)) ?_
   refine Rl (Lm:= [_,_,_]) (fun(V3:AL) (ls3:Vector BG 4)=>(A5 V3 ls3 ev2)=(A5 V2 ls2 ev2).set i ((A5 V2 ls2 ev2).at_ i).BX) (fun(V3:AL) (ls3:Vector BG 4)=> []) (fun(V3:AL) (ls3:Vector BG 4)=> [Ac.box b 101 (AL.enc V3),Ac.D7 (CJ 9 (AL.Ax V3) ls3),Ac.own (AL.last V3) 56 16 (ev2.flatMap Ing.Event.enc)]) (.t5 0 2 4 5 7) rfl ?_ (fun V3 ls3 hC=>?_)
   ·
    refine Ft (k:=i) hi.1 hi.2 (fun sv sl hsv hlv hln=>?_)
    refine BD (N:=17) [0,0,2,6,14,0,32,96,224,480,1022,2046,4094,4094,8191,24575,57343] mix (by kernel_rfl) rfl ?_
    refine Pf 0 rfl (AF rfl) (Pf 1 rfl (AF rfl) (Pf 2 rfl (BV rfl) (Pf 3 rfl (Ai D2 rfl) (Pf 4 rfl (AZ rfl C3 .m3 ((AU.BM V2 hi.1 hi.2).comp A2.l4) rfl) (Pf 5 rfl (AF rfl) (Pf 6 rfl (BV rfl) (Pf 7 rfl (Ai Ku rfl) ?_)))))))
    refine Pf 8 rfl (Ai Qp rfl) (Pf 9 rfl (AH rfl A4 .m3 (((AU.BM V2 hi.1 hi.2).comp A2.l2).comp AP.l5) rfl rfl) ?_)
    refine An 10 rfl (by kernel_rfl) ?_
    refine BE rfl fZ (.c rfl (.c rfl .n)) .n (NQ _ _ _ (by rw [← hlv];exact Xw hF2 hi.1 hi.2)) (fun w hS=>⟨(Kn.own .m1) w hS,(Wn.own .m1) w hS⟩) (fun v1 B hv=>?_)
    rcases hv with ⟨y2,rfl,rfl⟩ | ⟨y3,y4,y5,y6,y7,rfl,y8,y9,rfl⟩
    ·
     refine Bu rfl ⟨?_,?_⟩
     · exact(Pk (Pk (Pk (Pk (Pk (Pk (Pk (Pk (Pk (Po rfl (AF rfl) rfl rfl As))))))))))
     refine Pf 11 rfl (AF rfl) (Pf 12 rfl (AM rfl rfl) (Pf 13 rfl (AM rfl rfl) (Pf 14 rfl (BV rfl) (Pf 15 rfl (Ai D2 rfl) ?_))))
     refine An 16 rfl (by kernel_rfl) ?_
     refine AT (AK ((AU.BM V2 hi.1 hi.2).comp A2.l4) rfl rfl rfl Fw rfl (.t (.t (.t .h)))) ?_
     refine BO rfl ⟨?_,?_⟩
     · exact(Pk (Pk (Po rfl (AM rfl rfl) rfl rfl (Pk (Pk (Pk (Pk (Pk (Pk (Pk (Pk (Pk (Pk (Pk (Pk As)))))))))))))))
     refine A3 (by kernel_rfl) ?_
     refine AB (.t5 0 2 4 5 7) ?_
     refine CI (.c .h (.c .h (.c .h (.c .h (.c .h .n))))) ?_
     refine TA hi.1 hi.2 (by rfl) (by rfl) (by rfl) ?_
     refine Ed _ _ ?_ (.t5 0 2 4 5 7) (.refl _)
     · exact En hi.1 hi.2 hsv hlv (f:=Aq.BX) (Lp hln.2.1 y2)
    refine Bu rfl ⟨?_,?_⟩
    · exact(Pk (Pk (Pk (Pk (Pk (Pk (Pk (Pk (Pk (Po rfl (AF rfl) rfl rfl As))))))))))
    refine Pf 11 rfl (AF rfl) (Pf 12 rfl (AM rfl rfl) (Pf 13 rfl (AM rfl rfl) (Pf 14 rfl (BV rfl) (Pf 15 rfl (Ai D2 rfl) ?_))))
    refine An 16 rfl (by kernel_rfl) ?_
    refine AT (AK ((AU.BM V2 hi.1 hi.2).comp A2.l4) rfl rfl rfl Fw rfl (.t (.t (.t (.t .h))))) ?_
    refine BO rfl ⟨?_,?_⟩
    · exact(Pk (Pk (Po rfl (AM rfl rfl) rfl rfl (Pk (Pk (Pk (Pk (Pk (Pk (Pk (Pk (Pk (Pk (Pk (Pk As)))))))))))))))
    refine A3 (by kernel_rfl) ?_
    refine AB (.t5 0 2 4 5 7) ?_
    refine CI (.c .h (.c (.t .h) .n)) ?_
    refine dt y9 ?_
    refine CI (.c (.t .h) (.c .h (.c .h (.c .h (.c .h .n))))) ?_
    refine TA hi.1 hi.2 (by rfl) (by rfl) (by rfl) ?_
    refine Ed _ _ ?_ (.t5 0 2 4 5 7) (.refl _)
    · exact En hi.1 hi.2 hsv hlv (f:=Aq.BX) (Z0 hln.2.1 y3 _)
   refine Gs (Gm rfl (Gt (BV rfl) (Gt (Ai D2 rfl) (Gt (Ai Kx rfl) ?_))))
   refine Gt (AH rfl Dr .m0 (((AL.l1.comp (AU.ar (n:=4) A2.fl (by first | omega | exact hi))).comp A2.l4).comp Az.l4) rfl rfl) ?_
   refine Gn (.t6 0 2 4 5 7 40) ?_
   refine Gc (fun c4=>?_) (fun c4=>?_)
   ·
    have c4p:=kz c4
    refine Gs (Gm rfl (Gm rfl ?_))
    refine BE rfl cE (.c rfl (.c rfl .n)) (.c .h (.c .h (.c .h .n))) (Ia _ V3 ls3 ev2 i _ _ hi (by rw [hC];exact hF2.XA hi.1 hi.2) (by omega) (by omega)) (fun w hS=>⟨gl0.pull gm0 hS (.c .h (.c .h (.c .h .n))),gl1.pull gm1 hS (.c .h (.c .h (.c .h .n))),gl2.pull gm2 hS (.c .h (.c .h (.c .h .n))),gl3.pull gm3 hS (.c .h (.c .h (.c .h .n)))⟩) (fun v13 B hv=>?_)
    obtain⟨y14,y15,y16,rfl,y17,rfl⟩:=hv
    refine Gn (.t3 0 5 7) (AJ (Ga rfl (AQ (AW (AA (AJ ?_))))))
    refine Gt (Av rfl rfl (IntWalk.i64_in _ (by first | omega | exact hi.1 | exact hi.2))) ?_
    refine Gm rfl ?_
    refine AQ (AB (.t4 0 2 5 7) ?_)
    refine Ih (i+1) _ _ _ _ ?_ ?_ (.t4 2 7 0 5) (.refl _)
    · exact⟨by omega,by omega,(((LQ hi.1 hi.2 hI23).trans ((AX c3).trans (BB (show _=true from(VL hi.1 hi.2 hC).symm.trans c4)))).trans (by rw [← hC,← y17])).symm⟩
    · omega
   have c4p:=kz c4
   refine Aa ?_
   refine AB (.t4 0 2 5 7) ?_
   refine AW (AA (AJ ?_))
   refine Gt (Av rfl rfl (IntWalk.i64_in _ (by first | omega | exact hi.1 | exact hi.2))) ?_
   refine Gm rfl ?_
   refine AQ (AB (.t4 0 2 5 7) ?_)
   refine Ih (i+1) _ _ _ _ ?_ ?_ (.t4 2 7 0 5) (.refl _)
   · exact⟨by omega,by omega,(((LQ hi.1 hi.2 hI23).trans ((AX c3).trans (AX (show _=false from(VL hi.1 hi.2 hC).symm.trans c4)))).trans (by rw [← hC])).symm⟩
   · omega
  have c2p:=kz c2
  obtain rfl:i=4:=by omega
  have hE:(A5 V1 ls1 ev1).Ch 4=((A5 V2 ls2 ev2),c):=hI23.symm
  refine Ba (AV (AV (Af ?_)))
  refine AB (.t3 0 2 5) ?_
  refine AA (Gs (Gm rfl (Gt (BT rfl) (Gn (.t3 0 5 46) ?_))))
  refine Gc (fun c5=>?_) (fun c5=>?_)
  ·
   have c5p:=kz c5
   refine Ab (AR (AD (AD (AR ?_))))
   refine AY rfl .n ?_
   intro w1 hS
   have hS:=(hS.perm (Ay.perm (.c .h (.c .h (.c .h .n))))).A1
   refine⟨_,⟨V2,ls2,ev2,rfl,?ga1,rfl⟩,hS⟩
   case ga1=>exact(hI13.trans ((Ob hI11 (by omega)).trans ((BB (show(!((A5 V1 ls1 ev1).Ch 4).2)=true by rw [hE];exact c5)).trans (by rw [hE])))).symm
  have c5p:=kz c5
  refine Aa ?_
  refine AB (.t2 0 5) ?_
  refine AW (AA (AJ ?_))
  refine Gt (Av rfl rfl (IntWalk.i64_in _ (by first | omega | exact hi.1 | exact hi.2))) ?_
  refine Gm rfl ?_
  refine AQ (AB (.t2 0 5) ?_)
  refine DC (k+1) _ _ _ ?_ ?_ (.t2 5 0) (.refl _)
  · exact⟨by omega,by omega,hI13.trans ((Ob hI11 (by omega)).trans ((AX (show(!((A5 V1 ls1 ev1).Ch 4).2)=false by rw [hE];exact c5)).trans (by rw [hE]))),(QT hI14 (by omega) (by omega) hI23).mono (by omega) (by omega)⟩
  · omega
 have c1p:=kz c1
 refine Ba (AV (AV (Af ?_)))
 refine Bk rfl .n ?_
 intro w1 hS
 have hS:=(hS.perm (Ay.perm (.c .h (.c .h (.c .h .n))))).A1
 refine⟨_,⟨V1,ls1,ev1,rfl,?ga2,rfl⟩,hS⟩
 case ga2=>exact(hI13.trans (by rw [show(5 - k).toNat=0 by omega];rfl)).symm
theorem Pv (b:Nat)(V:AL)(ls:Vector BG 4)(ev:List Ing.Event)(d:Int)(n m:Nat)(hF:AI.Fit (A5 V ls ev) n m)(hn:n≤500000)(hm:m≤500000):FC Tryz.prog 60 #[.pointer (some ⟨b,0,none⟩), .int .i64 d] [Ac.box b 101 (AL.enc V),Ac.D7 (CJ 9 (AL.Ax V) ls),Ac.own (AL.last V) 56 16 ((ev).flatMap Ing.Event.enc)] (fun w=>(GV 2 Fa w∧2 ∉ Cc [Ac.box b 101 (AL.enc V),Ac.D7 (CJ 9 (AL.Ax V) ls),Ac.own (AL.last V) 56 16 ((ev).flatMap Ing.Event.enc)])∧(GV 0 AG.DE w∧0 ∉ Cc [Ac.box b 101 (AL.enc V),Ac.D7 (CJ 9 (AL.Ax V) ls),Ac.own (AL.last V) 56 16 ((ev).flatMap Ing.Event.enc)])∧(G0 7 w∧7 ∉ Cc [Ac.box b 101 (AL.enc V),Ac.D7 (CJ 9 (AL.Ax V) ls),Ac.own (AL.last V) 56 16 ((ev).flatMap Ing.Event.enc)])∧(G0 8 w∧8 ∉ Cc [Ac.box b 101 (AL.enc V),Ac.D7 (CJ 9 (AL.Ax V) ls),Ac.own (AL.last V) 56 16 ((ev).flatMap Ing.Event.enc)])) (fun v B=>∃ V' ls' ev',v = .tuple #[]∧A5 V' ls' ev'=AI.Om (A5 V ls ev) d∧B = [Ac.box b 101 (AL.enc V'),Ac.D7 (CJ 9 (AL.Ax V') ls'),Ac.own (AL.last V') 56 16 ((ev').flatMap Ing.Event.enc)]):=by
 intro w hS0 hH
 obtain⟨⟨gl0,gm0⟩,⟨gl1,gm1⟩,⟨gl2,gm2⟩,⟨gl3,gm3⟩⟩:=hH
 refine Al _ _ Tryz.func60 rfl rfl rfl (hS0) ?_
 refine CD (Gm rfl (AQ (AA (Ae ?_))))
 refine Bl (.t3 8 0 1) ?_
 refine Bf (.t (.t .h)) ?_
 refine Bf (.t (.t .h)) ?_
 refine Bf (.t (.t .h)) ?_
 refine Il (fun(i:Int) (V1:AL) (ls1:Vector BG 4) (ev1:List Ing.Event)=>0≤i∧i≤4∧(A5 V1 ls1 ev1)=AI.turns (A5 V ls ev) i.toNat) (fun(i:Int) (V1:AL) (ls1:Vector BG 4) (ev1:List Ing.Event)=>(4 - i).toNat) (fun(i:Int) (V1:AL) (ls1:Vector BG 4) (ev1:List Ing.Event)=> [(8, .int .i64 i)]) (fun(i:Int) (V1:AL) (ls1:Vector BG 4) (ev1:List Ing.Event)=> [Ac.box b 101 (AL.enc V1),Ac.D7 (CJ 9 (AL.Ax V1) ls1),Ac.own (AL.last V1) 56 16 (ev1.flatMap Ing.Event.enc)]) (0) (V) (ls) (ev) ?_ rfl rfl (fun i V1 ls1 ev1 hI1=>?_)
 · exact⟨by omega,by omega,rfl⟩
 obtain⟨hI11,hI12,hI13⟩:=hI1
 refine Gs (Gt (A8 rfl rfl) (AQ (AA (Ap ?_))))
 refine Gc (fun c1=>?_) (fun c1=>?_)
 ·
  have c1p:=kz c1
  have hi:0≤i∧i < 4:=⟨by omega,by omega⟩
  refine Aa ?_
  refine AB (.t3 0 1 8) ?_
  refine AA (Ap (Ae (Gs (Gm rfl (Ga rfl (Gn (.t4 0 1 4 8) (AJ ?_)))))))
  refine Gm rfl (Gm rfl (Gm rfl (Gt (BV rfl) (Gt (Ai HI rfl) ?_))))
  refine Gt (AS RV rfl rfl (by first | omega | exact hi.1 | exact hi.2) (by first | omega | exact hi.1 | exact hi.2)) ?_
  refine BE rfl fW (.c rfl (.c rfl .n)) (.c .h (.c .h (.c .h .n))) (Qt _ V1 ls1 ev1 i (n+44) (m+44) hi (by rw [hI13];exact(AI.KP hF i.toNat (by omega)).mono (by omega) (by omega)) (by omega) (by omega)) (fun w hS=>⟨gl0.pull gm0 hS (.c .h (.c .h (.c .h .n))),gl1.pull gm1 hS (.c .h (.c .h (.c .h .n))),gl2.pull gm2 hS (.c .h (.c .h (.c .h .n))),gl3.pull gm3 hS (.c .h (.c .h (.c .h .n)))⟩) (fun v1 B hv=>?_)
  obtain⟨y2,y3,y4,rfl,y5,rfl⟩:=hv
  refine AQ (AB (.t3 0 1 8) ?_)
  refine AW (AA (AJ ?_))
  refine Gt (Av rfl rfl (IntWalk.i64_in _ (by first | omega | exact hi.1 | exact hi.2))) ?_
  refine Gm rfl ?_
  refine AQ (AB (.t3 0 1 8) ?_)
  refine DC (i+1) _ _ _ ?_ ?_ (.t3 8 0 1) (.refl _)
  · exact⟨by omega,by omega,y5.trans (by rw [hI13];exact(Tu hI11).symm)⟩
  · omega
 have c1p:=kz c1
 obtain rfl:i=4:=by omega
 have hF1:=AI.KP hF 4 (Nat.le_refl 4)
 rw [show(4:Nat)=(4:Int).toNat from rfl,← hI13] at hF1
 have hrl:(AE.CW V1.w d).2.1.length≤78:=AE.P9 hF1.FP.HS d
 have hrs:=AE.JR (draw:=d) hF1.FP
 have hF4:=((hF1.land hrs.1).G2 hrs.2).mono (Nat.add_le_add_left hrl _) (Nat.add_le_add_left hrl _)
 refine Ba (AV (AV (Af ?_)))
 refine AB (.t2 0 1) ?_
 refine AA (Gs (Gm rfl (Gt (BV rfl) (Gt (Ai EL rfl) (Gt (AZ rfl BZ .m0 AL.l0 rfl) (Gm rfl ?_))))))
 refine BE rfl fq (.c rfl (.c rfl .n)) .n (MQ V1.w d hF1.FP.HS) (fun w hS=>gl1.pull gm1 hS .n) (fun v6 B hv=>?_)
 obtain⟨y7,rfl,y8,rfl⟩:=hv
 refine Gm rfl (Gt (AM rfl rfl) (Gt (AM rfl rfl) (Gt (AM rfl rfl) ?_)))
 refine BH rfl NS rfl (fun b1=>?_)
 refine AT (AK (AU.id AG.fl.len AG.fl.one) rfl rfl rfl EC rfl .h) ?_
 refine Ga rfl (Ga rfl (Gn (.t3 0 5 6) (Gs (Gm rfl (Gt (AZ rfl BZ .m0 (AU.id AG.fl.len AG.fl.one) rfl) (Gt (BV rfl) (Gt (Ai EL rfl) ?_)))))))
 refine AT (AK AL.l0 rfl rfl rfl EC rfl (.t (.t .h))) ?_
 refine Gn (.t2 0 6) (Gs (Gm rfl (Gm rfl ?_)))
 refine BE rfl VZ (.c rfl (.c rfl .n)) (.c (.t (.t .h)) (.c (.t (.t .h)) (.c (.t (.t .h)) (.c (.t .h) .n)))) (E1 _ { V1 with w:=(AE.CW V1.w d).1 } ls1 ev1 _ (AE.CW V1.w d).2.1 _ (by assumption) (Gp hF1) (by omega) (Nat.le_trans hF1.last (by omega)) (fun e he c _=>hrs.2 e he)) (fun w hS=>⟨gl0.pull gm0 hS (.c (.t (.t .h)) (.c (.t (.t .h)) (.c (.t (.t .h)) (.c (.t .h) .n)))),gl1.pull gm1 hS (.c (.t (.t .h)) (.c (.t (.t .h)) (.c (.t (.t .h)) (.c (.t .h) .n))))⟩) (fun v10 B hv=>?_)
 obtain⟨y11,y12,y13,rfl,y14,rfl⟩:=hv
 refine Gn (.t1 0) (AJ (Gm rfl ?_))
 refine BE rfl SC (.c rfl .n) (.c .h (.c .h (.c .h .n))) (Dz _ y11 y12 y13 _ _ (by rw [y14];exact hF4) (by omega) (by omega)) (fun w hS=>⟨gl0.pull gm0 hS (.c .h (.c .h (.c .h .n))),gl1.pull gm1 hS (.c .h (.c .h (.c .h .n))),gl2.pull gm2 hS (.c .h (.c .h (.c .h .n))),gl3.pull gm3 hS (.c .h (.c .h (.c .h .n)))⟩) (fun v15 B hv=>?_)
 obtain⟨y16,y17,y18,rfl,y19,rfl⟩:=hv
 refine AQ ?_
 refine Bk rfl .n ?_
 intro w1 hS
 have hS:=(hS.perm (Ay.perm (.c .h (.c .h (.c .h .n))))).A1
 refine⟨_,⟨y16,y17,y18,rfl,?ga1,rfl⟩,hS⟩
 case ga1=>rw [y19,y14,OT];show AI.BX (AI.G2 { (A5 V1 ls1 ev1) with w:=(AE.CW ((A5 V1 ls1 ev1)).w d).1 } (AE.CW ((A5 V1 ls1 ev1)).w d).2.1)=_;rw [hI13];rfl
theorem F0 (opt:Int)(w:World):Ej Tryz.prog 73 #[.int .i64 opt] w fun v w'=>v = .tuple #[.int .i64 (AP.place opt).1, .bool (AP.place opt).2.1, .bool (AP.place opt).2.2]∧CB w w':=by
 refine Al [] [] Tryz.func73 rfl rfl rfl (St.start w []) ?_
 refine Gs (Ga rfl (Ga rfl (Ga rfl (Gn (.t1 0) (CD (Gm rfl (Gn (.t1 5) ?_)))))))
 refine Ae (Gs (Gt (Ag rfl rfl) (Ga rfl (Gn (.t2 5 6) ?_))))
 refine Gc (fun c1=>?_) (fun c1=>?_)
 ·
  refine Gs (Ga rfl (Ga rfl (Ga rfl (Gn (.t3 2 3 4) (Ab (AR (AD ?_)))))))
  refine AY rfl (.tmp rfl (.tmp rfl (.tmp rfl .n))) ?_
  intro w1 hS;refine⟨?_,hS.Ak⟩;simp only [AP.place,c1,↓reduceIte,Bool.false_eq_true];rfl
 refine Gs (Gt (Ag rfl rfl) (Ga rfl (Gn (.t2 5 8) ?_)))
 refine Gc (fun c2=>?_) (fun c2=>?_)
 ·
  refine Gs (Ga rfl (Ga rfl (Ga rfl (Gn (.t3 2 3 4) (Ab (AR (AD ?_)))))))
  refine AY rfl (.tmp rfl (.tmp rfl (.tmp rfl .n))) ?_
  intro w1 hS;refine⟨?_,hS.Ak⟩;simp only [AP.place,c1,c2,↓reduceIte,Bool.false_eq_true];rfl
 refine Gs (Gt (Ag rfl rfl) (Ga rfl (Gn (.t1 10) ?_)))
 refine Gc (fun c3=>?_) (fun c3=>?_)
 ·
  refine Gs (Ga rfl (Ga rfl (Ga rfl (Gn (.t3 2 3 4) (Ab (AR (AD ?_)))))))
  refine AY rfl (.tmp rfl (.tmp rfl (.tmp rfl .n))) ?_
  intro w1 hS;refine⟨?_,hS.Ak⟩;simp only [AP.place,c1,c2,c3,↓reduceIte,Bool.false_eq_true];rfl
 refine Aa ?_
 refine AB (.nil _) ?_
 refine AW (AA (Gs (Ga rfl (Ga rfl (Ga rfl (AQ (AA ?_)))))))
 refine Ab ?_
 refine AY rfl (.tmp rfl (.tmp rfl (.tmp rfl .n))) ?_
 intro w1 hS;refine⟨?_,hS.Ak⟩;simp only [AP.place,c1,c2,c3,↓reduceIte,Bool.false_eq_true];rfl
theorem GK (X:AP)(w:World):Ej Tryz.prog 55 #[.agg X.enc.toArray] w fun v w'=>v = .bool X.Bh∧CB w w':=by
 refine Al [] [] Tryz.func55 rfl rfl rfl (St.start w []) ?_
 refine Gs ?_
 refine B5 rfl rfl rfl (fun b1=>?_)
 refine Ga rfl (Gn (.t1 1) (CD (Gm rfl (AQ (AA (Ae ?_))))))
 refine Bl (.t2 4 1) ?_
 refine Ce (fun(k:Int)=>0≤k∧k≤3∧X.Bh=(B8 3 (fun i=>!X.OC i) (3 - k).toNat && (!(!decide (X.us.at 2=0) || !decide (X.Gz.at 0=0)) && X.QL))) (fun(k:Int)=>(3 - k).toNat) (fun(k:Int)=> [(4, .int .i64 k)]) (fun(k:Int)=> []) (0) ?_ rfl rfl (fun k hI1=>?_)
 · exact⟨Int.le_refl _,by omega,rfl⟩
 obtain⟨hI11,hI12,hI13⟩:=hI1
 refine Gs (Gt (A8 rfl rfl) (AQ (AA (Ap ?_))))
 refine Gc (fun c1=>?_) (fun c1=>?_)
 ·
  have c1p:=kz c1
  rw [Dd _ (by omega)] at hI13
  refine Aa ?_
  refine AB (.t2 1 4) ?_
  refine AA (Ap (Ae (Gs (Gm rfl (Ga rfl (Gn (.t3 1 3 4) (Gs ?_)))))))
  refine Gm rfl (Gt (Ai LK rfl) ?_)
  refine Gt (AS Kz rfl rfl (by omega) (by omega)) ?_
  refine Gt (AH rfl A4 .m0 (AP.l3.comp (AU.ar (n:=3) B1 (by omega))) rfl rfl) ?_
  refine Gt (A8 rfl rfl) (Gm rfl (Bc 12 rfl rfl (fun q=>AF rfl) (Bc 12 rfl rfl (fun q=>Ai LK rfl) ?_)))
  refine Bc 12 rfl rfl (fun q=>by have q1:=q;(try simp at q1);exact AS Kz (cF rfl q) (cF rfl q) (by omega) (by omega)) ?_
  refine Bc 12 rfl rfl (fun q=>by have q1:=q;(try simp at q1);exact AH (cF rfl q) A4 .m0 (AP.l3.comp (AU.ar (n:=3) B1 (by omega))) rfl rfl) ?_
  refine Bc 12 rfl rfl (fun q=>Cn (cF rfl q) rfl) ?_
  refine Gt (BR rfl rfl (fun h=>by rw [h];rfl)) ?_
  refine Gm rfl (Bc 19 rfl rfl (fun q=>AF rfl) (Bc 19 rfl rfl (fun q=>Ai Jo rfl) ?_))
  refine Bc 19 rfl rfl (fun q=>by have q1:=q;(try simp at q1);exact AS Kz (cF rfl q) (cF rfl q) (by omega) (by omega)) ?_
  refine Bc 19 rfl rfl (fun q=>by have q1:=q;(try simp at q1);exact AH (cF rfl q) A4 .m0 (AP.l4.comp (AU.ar (n:=3) B1 (by omega))) rfl rfl) ?_
  refine Bc 19 rfl rfl (fun q=>A8 (cF rfl q) rfl) ?_
  refine Gt (BR rfl rfl (fun h=>by rw [h];rfl)) ?_
  refine Gm rfl (Bc 26 rfl rfl (fun q=>AF rfl) (Bc 26 rfl rfl (fun q=>Ai Jo rfl) ?_))
  refine Bc 26 rfl rfl (fun q=>by have q1:=q;(try simp at q1);exact AS Kz (cF rfl q) (cF rfl q) (by omega) (by omega)) ?_
  refine Bc 26 rfl rfl (fun q=>by have q1:=q;(try simp at q1);exact AH (cF rfl q) A4 .m0 (AP.l4.comp (AU.ar (n:=3) B1 (by omega))) rfl rfl) ?_
  refine Bc 26 rfl rfl (fun q=>Cn (cF rfl q) rfl) ?_
  refine Gt (BR rfl rfl (fun h=>by rw [h];rfl)) ?_
  refine Gn (.t3 1 4 32) ?_
  refine Gc (fun c2=>?_) (fun c2=>?_)
  ·
   refine Gs (Ga rfl (Gn (.t1 2) (Ab (AR (AD (AD (AR ?_)))))))
   refine AD ?_
   refine AY rfl (.tmp rfl .n) ?_
   intro w1 hS;refine⟨congrArg Value.bool ?_,hS.Ak⟩;rw [hI13,AP.OC,c2];rfl
  have c2p:=kz c2
  refine Aa ?_
  refine AB (.t2 1 4) ?_
  refine AW (AA (AJ ?_))
  refine Gt (Av rfl rfl (IntWalk.i64_in _ (by omega))) ?_
  refine Gm rfl ?_
  refine AQ (AB (.t2 1 4) ?_)
  refine B6 (k+1) ?_ ?_ (.t2 4 1) (.refl _)
  · exact⟨by omega,by omega,by rw [hI13,AP.OC,c2];rfl⟩
  · omega
 have c1p:=kz c1
 obtain rfl:k=3:=by omega
 refine Ba (AV (AV (Af ?_)))
 refine AB (.t1 1) ?_
 refine AA (CD (Gt (Ai LK rfl) ?_))
 refine Gt (AS Kz rfl rfl (by decide) (by decide)) ?_
 refine Gt (AH rfl A4 .m0 (AP.l3.comp (AU.arr (n:=3) B1 (by decide) (by decide))) rfl rfl) ?_
 refine Gt (Ca rfl rfl) (Gm rfl (Bc 38 rfl rfl (fun q=>Ai Jo rfl) ?_))
 refine Bc 38 rfl rfl (fun q=>AS Kz (cF rfl q) rfl (by decide) (by decide)) ?_
 refine Bc 38 rfl rfl (fun q=>AH (cF rfl q) A4 .m0 (AP.l4.comp (AU.arr (n:=3) B1 (by decide) (by decide))) rfl rfl) ?_
 refine Bc 38 rfl rfl (fun q=>Ca (cF rfl q) rfl) ?_
 refine Gt (BR rfl rfl (fun h=>by rw [h];rfl)) ?_
 refine Gn (.t2 1 43) ?_
 refine Gc (fun c3=>?_) (fun c3=>?_)
 ·
  refine Gs (Ga rfl (Gn (.t1 2) (Ab (AD ?_))))
  refine AY rfl (.tmp rfl .n) ?_
  intro w1 hS;refine⟨congrArg Value.bool ?_,hS.Ak⟩;rw [hI13,c3];rfl
 refine Aa ?_
 refine AB (.t1 1) ?_
 refine AA (Gs (Gt (Ai F1 rfl) (Gt (AH rfl A4 .m0 AP.l0 rfl rfl) (Gt (CV rfl rfl) (Gm rfl (Bo 47 rfl rfl (fun q=>Ai F1 rfl) (Bo 47 rfl rfl (fun q=>AH (Bj rfl q) A4 .m0 AP.l0 rfl rfl) ?_)))))))
 refine Bo 47 rfl rfl (fun q=>IQ (Bj rfl q) rfl) (Gt (BK rfl rfl (fun h=>h)) (Gm rfl (Bo 52 rfl rfl (fun q=>Ai F1 rfl) (Bo 52 rfl rfl (fun q=>AH (Bj rfl q) A4 .m0 AP.l0 rfl rfl) (Bo 52 rfl rfl (fun q=>Ag (Bj rfl q) rfl) (Bo 52 rfl rfl (fun q=>Ai LI rfl) (Bo 52 rfl rfl (fun q=>AH (Bj rfl q) A4 .m0 AP.l1 rfl rfl) ?_)))))))
 refine Bo 52 rfl rfl (fun q=>Ca (Bj rfl q) rfl) (Bo 52 rfl rfl (fun q=>Jf Tryz.underlying4 (Bj rfl q) (Bj rfl q)) (Gt (BK rfl rfl (fun h=>h)) (Gm rfl (Bo 61 rfl rfl (fun q=>Ai LI rfl) (Bo 61 rfl rfl (fun q=>AH (Bj rfl q) A4 .m0 AP.l1 rfl rfl) (Bo 61 rfl rfl (fun q=>Ag (Bj rfl q) rfl) (Bo 61 rfl rfl (fun q=>AF (Bj rfl q)) ?_)))))))
 refine C5 (t:=65) rfl rfl rfl (fun qc q=>Ai LI rfl) ?_
 refine C5 (t:=65) rfl rfl rfl (fun qc q=>AH (Bj rfl (by rw [qc,q];rfl)) A4 .m0 AP.l1 rfl rfl) ?_
 refine C5 (t:=65) rfl rfl rfl (fun qc q=>CV (Bj rfl (by rw [qc,q];rfl)) rfl) ?_
 refine C5 (t:=65) rfl rfl rfl (fun qc q=>AF (Bj rfl (by rw [qc,q];rfl))) ?_
 refine DT (t:=69) rfl rfl rfl (fun qc q=>Ai LI rfl) ?_
 refine DT (t:=69) rfl rfl rfl (fun qc q=>AH (Bj rfl (by rw [qc,q];rfl)) A4 .m0 AP.l1 rfl rfl) ?_
 refine DT (t:=69) rfl rfl rfl (fun qc q=>IQ (Bj rfl (by rw [qc,q];rfl)) rfl) ?_
 refine C5 (t:=65) rfl rfl rfl (fun qc q=>BK (Bj rfl (by rw [qc,q];rfl)) rfl (fun h=>by rw [qc,q,h];rfl)) ?_
 refine Bo 61 rfl rfl (fun q=>BR (Bj rfl q) rfl (fun h=>by rw [q,h];rfl)) ?_
 refine Gt (BK rfl rfl (fun h=>h)) (Gm rfl (Bo 76 rfl rfl (fun q=>Ai G6 rfl) (Bo 76 rfl rfl (fun q=>AH (Bj rfl q) CO .m0 AP.l2 rfl rfl) (Bo 76 rfl rfl (fun q=>BF rfl Tryz.underlying9 (Bj rfl q)) (Bo 76 rfl rfl (fun q=>IQ (Bj rfl q) rfl) (Gt (BK rfl rfl (fun h=>h)) (Gm rfl ?_)))))))
 refine Bo 82 rfl rfl (fun q=>Ai F1 rfl) (Bo 82 rfl rfl (fun q=>AH (Bj rfl q) A4 .m0 AP.l0 rfl rfl) (Bo 82 rfl rfl (fun q=>CV (Bj rfl q) rfl) (Bo 82 rfl rfl (fun q=>AF (Bj rfl q)) ?_)))
 refine C5 (t:=86) rfl rfl rfl (fun qc q=>Ai G6 rfl) ?_
 refine C5 (t:=86) rfl rfl rfl (fun qc q=>AH (Bj rfl (by rw [qc,q];rfl)) CO .m0 AP.l2 rfl rfl) ?_
 refine C5 (t:=86) rfl rfl rfl (fun qc q=>Bi (Bj rfl (by rw [qc,q];rfl)) rfl) ?_
 refine Bo 82 rfl rfl (fun q=>BR (Bj rfl q) rfl (fun h=>by rw [q,h];rfl)) ?_
 refine Gt (BK rfl rfl (fun h=>h)) (Gm rfl (Bo 92 rfl rfl (fun q=>Ai Qp rfl) (Bo 92 rfl rfl (fun q=>AH (Bj rfl q) A4 .m0 AP.l5 rfl rfl) (Bo 92 rfl rfl (fun q=>CV (Bj rfl q) rfl) (Gt (BK rfl rfl (fun h=>h)) (Gm rfl (Bo 97 rfl rfl (fun q=>Ai Qp rfl) ?_)))))))
 refine Bo 97 rfl rfl (fun q=>AH (Bj rfl q) A4 .m0 AP.l5 rfl rfl) (Bo 97 rfl rfl (fun q=>IQ (Bj rfl q) rfl) (Gt (BK rfl rfl (fun h=>h)) (Ga rfl (Gn (.t1 2) (Ab ?_)))))
 refine AY rfl (.tmp rfl .n) ?_
 intro w1 hS;refine⟨congrArg Value.bool ?_,hS.Ak⟩;rw [hI13,c3];rfl
theorem C2 (verb opt:Int)(h0:0≤verb∧verb≤255)(h1:0≤opt∧opt≤255)(w:World):Ej Tryz.prog 74 #[.int .i64 verb, .int .i64 opt] w fun v w'=>v=BU (AP.W3 verb opt)∧CB w w':=by
 refine Al [] [] Tryz.func74 rfl rfl rfl (St.start w []) ?_
 refine Gs (Ga rfl (Gn (.t2 0 1) (Gs (Gm rfl ?_))))
 refine Gt (OZ Tryz.underlying5 Tryz.underlying3 rfl (IntWalk.u8_in _ (by omega))) ?_
 refine Gm rfl ?_
 refine Gt (OZ Tryz.underlying5 Tryz.underlying3 rfl (IntWalk.u8_in _ (by omega))) ?_
 refine Xr (cs:=B3 (n:=3) cP (Vector.replicate 3 default)) rfl Tryz.underlying105 VO bL (by decide) (by decide) (by kernel_rfl) (.cons (AU.arr (n:=3) (i:=0) eg (by decide) (by decide)) rfl rfl rfl (.cons (AU.arr (n:=3) (i:=1) eg (by decide) (by decide)) rfl rfl rfl (.cons (AU.arr (n:=3) (i:=2) eg (by decide) (by decide)) rfl rfl rfl .nil))) ((Iz eg).len _) (fun b1=>?_)
 refine Gt (PI (s:=AP.W3 verb opt) (by rw [show(AP.W3 verb opt).flatMap DV = [.int .u8 255, .int .u8 verb, .int .u8 opt] from by simp [AP.W3,DV,TI h0.1 h0.2,TI h1.1 h1.2]];rfl) Tryz.underlying105 Tryz.underlying9 Tryz.underlying5 rfl (Kn.own .m0)) ?_
 refine Ga rfl (Gn (.t1 4) (Ab ?_))
 refine AY rfl (.tmp rfl .n) ?_
 intro w1 hS;refine⟨?_,hS.Ak⟩;rfl
theorem Ll (X:AP)(opt:Int)(w:World):Ej Tryz.prog 80 #[.agg X.enc.toArray, .int .i64 opt] w fun v w'=>v = .tuple #[.agg (X.DQ opt).1.enc.toArray,BU (X.DQ opt).2.1, .int .i64 (X.DQ opt).2.2]∧CB w w':=by
 refine Al [] [] Tryz.func80 rfl rfl rfl (St.start w []) ?_
 refine Gs ?_
 refine B5 rfl rfl rfl (fun b1=>?_)
 refine BH rfl cA rfl (fun b2=>?_)
 refine Ga rfl (Ga rfl (Gn (.t3 1 2 4) (Gs (Gm rfl ?_))))
 refine BA rfl bO (.c rfl .n) (fun w hS=>F0 _ w) ?_
 refine Gm rfl (Gt (AM rfl rfl) (Gt (AM rfl rfl) (Gt (AM rfl rfl) (Ga rfl (Ga rfl (Ga rfl (Gn (.t5 1 2 4 7 8) ?_)))))))
 refine Ap (Ae (Gs (Gt (AZ rfl D6 .m1 (AU.id AP.fl.len AP.fl.one) rfl) ?_)))
 refine BA rfl cL (.c rfl .n) (fun w hS=>GK _ w) ?_
 refine Gt (BT rfl) (Ga rfl (Gn (.t6 1 2 4 7 8 16) ?_))
 refine Gc (fun c1=>?_) (fun c1=>?_)
 ·
  refine Gs (Gt (AZ rfl D6 .m1 (AU.id AP.fl.len AP.fl.one) rfl) ?_)
  refine AT (AK (AU.id AP.fl.len AP.fl.one) rfl rfl rfl Ki rfl .h) ?_
  refine Ga rfl (Ga rfl (Gn (.t3 4 5 6) (Ab (AR (AD ?_)))))
  refine AY rfl (.cell rfl .m0 (.inl ⟨(by rw [AP.fl.len];exact D6),rfl⟩) (.tmp rfl (.tmp rfl .n))) ?_
  intro w1 hS;refine⟨?_,hS.Ak⟩;simp only [AP.DQ,c1,↓reduceIte,Bool.false_eq_true];rfl
 have c1p:=kz c1
 refine Gs (Gm rfl (Gt (BT rfl) (Ga rfl (Gn (.t5 1 2 4 7 21) ?_))))
 refine Gc (fun c2=>?_) (fun c2=>?_)
 ·
  refine Gs (Gt (AZ rfl D6 .m1 (AU.id AP.fl.len AP.fl.one) rfl) ?_)
  refine AT (AK (AU.id AP.fl.len AP.fl.one) rfl rfl rfl Ki rfl .h) ?_
  refine Ga rfl (Ga rfl (Gn (.t3 4 5 6) (Ab (AR (AD ?_)))))
  refine AY rfl (.cell rfl .m0 (.inl ⟨(by rw [AP.fl.len];exact D6),rfl⟩) (.tmp rfl (.tmp rfl .n))) ?_
  intro w1 hS;refine⟨?_,hS.Ak⟩;simp only [AP.DQ,c1,c2,↓reduceIte,Bool.false_eq_true];rfl
 have c2p:=kz c2
 have hk:=AP.Ou (opt:=opt) (by simpa using c2)
 have hk1:0≤(AP.place opt).1∧(AP.place opt).1 < 3:=by rcases hk with ⟨_,e⟩ | ⟨_,e⟩<;>rw [e]<;>decide
 have ho:0≤opt∧opt≤255:=by rcases hk with ⟨e,_⟩ | ⟨e,_⟩<;>omega
 refine Gs (Gm rfl (Gt (Ai LK rfl) ?_))
 refine Gt (AS Kz rfl rfl (by omega) (by omega)) ?_
 refine Gt (AH rfl A4 .m1 (AP.l3.comp (AU.ar (n:=3) B1 (by omega))) rfl rfl) ?_
 refine Gt (Ca rfl rfl) (Ga rfl (Gn (.t5 1 2 4 7 25) ?_))
 refine Gc (fun c3=>?_) (fun c3=>?_)
 ·
  refine Gs (Gt (AZ rfl D6 .m1 (AU.id AP.fl.len AP.fl.one) rfl) ?_)
  refine AT (AK (AU.id AP.fl.len AP.fl.one) rfl rfl rfl Ki rfl .h) ?_
  refine Ga rfl (Ga rfl (Gn (.t3 4 5 6) (Ab (AR (AD ?_)))))
  refine AY rfl (.cell rfl .m0 (.inl ⟨(by rw [AP.fl.len];exact D6),rfl⟩) (.tmp rfl (.tmp rfl .n))) ?_
  intro w1 hS;refine⟨?_,hS.Ak⟩;simp only [AP.DQ,c1,c2,c3,↓reduceIte,Bool.false_eq_true];rfl
 have c3p:=kz c3
 refine Aa ?_
 refine AB (.t4 1 2 4 7) ?_
 refine AW (AA (Gs (Gm rfl (Gt (Ai LK rfl) ?_))))
 refine Gt (AS Kz rfl rfl (by omega) (by omega)) ?_
 refine AT (AK (AP.l3.comp (AU.ar (n:=3) B1 (by omega))) rfl rfl rfl DB rfl (.t .h)) ?_
 refine Gn (.t3 1 2 4) (Ap ?_)
 refine BD (N:=6) [0,0,2,7,15,31] mix (by kernel_rfl) rfl ?_
 refine Pf 0 rfl (AZ rfl D6 .m1 (AU.id AP.fl.len AP.fl.one) rfl) (Pf 1 rfl (AF rfl) ?_)
 refine Bb 2 rfl rfl (by kernel_rfl) (L9 (K9 (EB Sp (.c rfl (.c rfl .n)) (fun w hS=>C2 _ _ (by first | assumption | omega) (by first | assumption | omega) w)))) ?_
 refine An 3 rfl (by kernel_rfl) ?_
 refine AT (AK (AU.id AP.fl.len AP.fl.one) rfl rfl rfl Ki rfl .h) ?_
 refine BO rfl ⟨?_,?_⟩
 · exact(Pk (Pk (Pk As)))
 refine Pf 4 rfl (A0 rfl) (Pf 5 rfl (A0 rfl) ?_)
 refine A3 (by kernel_rfl) ?_
 refine AB (.t3 4 5 6) ?_
 refine AA (Ab ?_)
 refine AY rfl (.cell rfl .m0 (.inl ⟨(by rw [AP.fl.len];exact D6),rfl⟩) (.tmp rfl (.tmp rfl .n))) ?_
 intro w1 hS;refine⟨?_,hS.Ak⟩;simp only [AP.DQ,c1,c2,c3,↓reduceIte,Bool.false_eq_true];rfl
theorem NX (X:AP)(opt:Int)(w:World):Ej Tryz.prog 81 #[.agg X.enc.toArray, .int .i64 opt] w fun v w'=>v = .tuple #[.agg (X.Ask opt).1.enc.toArray,BU (X.Ask opt).2.1, .int .i64 (X.Ask opt).2.2]∧CB w w':=by
 refine Al [] [] Tryz.func81 rfl rfl rfl (St.start w []) ?_
 refine Gs ?_
 refine B5 rfl rfl rfl (fun b1=>?_)
 refine BH rfl cA rfl (fun b2=>?_)
 refine Ga rfl (Ga rfl (Gn (.t3 1 2 4) (Gs (Gm rfl ?_))))
 refine BA rfl bO (.c rfl .n) (fun w hS=>F0 _ w) ?_
 refine Gm rfl (Gt (AM rfl rfl) (Gt (AM rfl rfl) (Gt (AM rfl rfl) (Ga rfl (Ga rfl (Ga rfl (Gn (.t5 1 2 4 7 9) ?_)))))))
 refine Ap (Ae (Gs (Gt (AZ rfl D6 .m1 (AU.id AP.fl.len AP.fl.one) rfl) ?_)))
 refine BA rfl cL (.c rfl .n) (fun w hS=>GK _ w) ?_
 refine Gt (BT rfl) (Ga rfl (Gn (.t6 1 2 4 7 9 16) ?_))
 refine Gc (fun c1=>?_) (fun c1=>?_)
 ·
  refine Gs (Gt (AZ rfl D6 .m1 (AU.id AP.fl.len AP.fl.one) rfl) ?_)
  refine AT (AK (AU.id AP.fl.len AP.fl.one) rfl rfl rfl Ki rfl .h) ?_
  refine Ga rfl (Ga rfl (Gn (.t3 4 5 6) (Ab (AR (AD ?_)))))
  refine AY rfl (.cell rfl .m0 (.inl ⟨(by rw [AP.fl.len];exact D6),rfl⟩) (.tmp rfl (.tmp rfl .n))) ?_
  intro w1 hS;refine⟨?_,hS.Ak⟩;simp only [AP.Ask,c1,↓reduceIte,Bool.false_eq_true];rfl
 have c1p:=kz c1
 refine Gs (Gm rfl (Gt (BT rfl) (Ga rfl (Gn (.t5 1 2 4 7 21) ?_))))
 refine Gc (fun c2=>?_) (fun c2=>?_)
 ·
  refine Gs (Gt (AZ rfl D6 .m1 (AU.id AP.fl.len AP.fl.one) rfl) ?_)
  refine AT (AK (AU.id AP.fl.len AP.fl.one) rfl rfl rfl Ki rfl .h) ?_
  refine Ga rfl (Ga rfl (Gn (.t3 4 5 6) (Ab (AR (AD ?_)))))
  refine AY rfl (.cell rfl .m0 (.inl ⟨(by rw [AP.fl.len];exact D6),rfl⟩) (.tmp rfl (.tmp rfl .n))) ?_
  intro w1 hS;refine⟨?_,hS.Ak⟩;simp only [AP.Ask,c1,c2,↓reduceIte,Bool.false_eq_true];rfl
 have c2p:=kz c2
 have hk:=AP.LG (opt:=opt) (by simpa using c2)
 have hk1:0≤(AP.place opt).1∧(AP.place opt).1 < 3:=by rcases hk with ⟨_,e⟩ | ⟨_,e⟩<;>rw [e]<;>decide
 have ho:0≤opt∧opt≤255:=by rcases hk with ⟨e,_⟩ | ⟨e,_⟩<;>omega
 refine Gs (Gm rfl (Gt (Ai Jo rfl) ?_))
 refine Gt (AS Kz rfl rfl (by omega) (by omega)) ?_
 refine Gt (AH rfl A4 .m1 (AP.l4.comp (AU.ar (n:=3) B1 (by omega))) rfl rfl) ?_
 refine Gt (Ca rfl rfl) (Ga rfl (Gn (.t5 1 2 4 7 25) ?_))
 refine Gc (fun c3=>?_) (fun c3=>?_)
 ·
  refine Gs (Gt (AZ rfl D6 .m1 (AU.id AP.fl.len AP.fl.one) rfl) ?_)
  refine AT (AK (AU.id AP.fl.len AP.fl.one) rfl rfl rfl Ki rfl .h) ?_
  refine Ga rfl (Ga rfl (Gn (.t3 4 5 6) (Ab (AR (AD ?_)))))
  refine AY rfl (.cell rfl .m0 (.inl ⟨(by rw [AP.fl.len];exact D6),rfl⟩) (.tmp rfl (.tmp rfl .n))) ?_
  intro w1 hS;refine⟨?_,hS.Ak⟩;simp only [AP.Ask,c1,c2,c3,↓reduceIte,Bool.false_eq_true];rfl
 have c3p:=kz c3
 refine Aa ?_
 refine AB (.t4 1 2 4 7) ?_
 refine AW (AA (Gs (Gm rfl (Gt (Ai Jo rfl) ?_))))
 refine Gt (AS Kz rfl rfl (by omega) (by omega)) ?_
 refine AT (AK (AP.l4.comp (AU.ar (n:=3) B1 (by omega))) rfl rfl rfl DB rfl (.t .h)) ?_
 refine Gn (.t3 1 2 4) (Ap ?_)
 refine BD (N:=6) [0,0,2,7,15,31] mix (by kernel_rfl) rfl ?_
 refine Pf 0 rfl (AZ rfl D6 .m1 (AU.id AP.fl.len AP.fl.one) rfl) (Pf 1 rfl (AF rfl) ?_)
 refine Bb 2 rfl rfl (by kernel_rfl) (L9 (K9 (EB Sp (.c rfl (.c rfl .n)) (fun w hS=>C2 _ _ (by first | assumption | omega) (by first | assumption | omega) w)))) ?_
 refine An 3 rfl (by kernel_rfl) ?_
 refine AT (AK (AU.id AP.fl.len AP.fl.one) rfl rfl rfl Ki rfl .h) ?_
 refine BO rfl ⟨?_,?_⟩
 · exact(Pk (Pk (Pk As)))
 refine Pf 4 rfl (A0 rfl) (Pf 5 rfl (A0 rfl) ?_)
 refine A3 (by kernel_rfl) ?_
 refine AB (.t3 4 5 6) ?_
 refine AA (Ab ?_)
 refine AY rfl (.cell rfl .m0 (.inl ⟨(by rw [AP.fl.len];exact D6),rfl⟩) (.tmp rfl (.tmp rfl .n))) ?_
 intro w1 hS;refine⟨?_,hS.Ak⟩;simp only [AP.Ask,c1,c2,c3,↓reduceIte,Bool.false_eq_true];rfl
theorem Rj (b:Nat)(V:AL)(ls:Vector BG 4)(ev:List Ing.Event)(k:Int)(n m:Nat)(hk:0≤k∧k < 4)(hF:AI.Fit (A5 V ls ev) n m)(hn:n≤500000)(hm:m≤500000):FC Tryz.prog 61 #[.pointer (some ⟨b,0,none⟩), .pointer (some ⟨b,165+k.toNat * 22,none⟩)] [Ac.box b 101 (AL.enc V),Ac.D7 (CJ 9 (AL.Ax V) ls),Ac.own (AL.last V) 56 16 ((ev).flatMap Ing.Event.enc)] (fun w=>(GV 2 Fa w∧2 ∉ Cc [Ac.box b 101 (AL.enc V),Ac.D7 (CJ 9 (AL.Ax V) ls),Ac.own (AL.last V) 56 16 ((ev).flatMap Ing.Event.enc)])∧(GV 0 AG.DE w∧0 ∉ Cc [Ac.box b 101 (AL.enc V),Ac.D7 (CJ 9 (AL.Ax V) ls),Ac.own (AL.last V) 56 16 ((ev).flatMap Ing.Event.enc)])∧(G0 7 w∧7 ∉ Cc [Ac.box b 101 (AL.enc V),Ac.D7 (CJ 9 (AL.Ax V) ls),Ac.own (AL.last V) 56 16 ((ev).flatMap Ing.Event.enc)])∧(G0 8 w∧8 ∉ Cc [Ac.box b 101 (AL.enc V),Ac.D7 (CJ 9 (AL.Ax V) ls),Ac.own (AL.last V) 56 16 ((ev).flatMap Ing.Event.enc)])) (fun v B=>∃ V' ls' ev',v = .tuple #[]∧A5 V' ls' ev'=AI.J9 (A5 V ls ev) k∧B = [Ac.box b 101 (AL.enc V'),Ac.D7 (CJ 9 (AL.Ax V') ls'),Ac.own (AL.last V') 56 16 ((ev').flatMap Ing.Event.enc)]):=by
 intro w hS0 hH
 obtain⟨⟨gl0,gm0⟩,⟨gl1,gm1⟩,⟨gl2,gm2⟩,⟨gl3,gm3⟩⟩:=hH
 refine Al _ _ Tryz.func61 rfl rfl rfl (hS0) ?_
 refine Ap ?_
 refine Ft (k:=k) hk.1 hk.2 (fun sv sl hsv hlv hln=>?_)
 refine AJ (Gm rfl (Gt (BC WZ V5 rfl (.cons A2.l0 rfl rfl rfl (.cons A2.l1 rfl rfl rfl .nil))) (Gt (BV rfl) ?_)))
 refine AT (AK (AU.BM V hk.1 hk.2) rfl rfl rfl Tw rfl (.t (.t (.t .h)))) ?_
 refine Gn (.t2 0 1) (CD ?_)
 refine Gt (E0 Tryz.underlying145 DB dG rfl (.cons (AU.arr (n:=2) (i:=0) B1 (by decide) (by decide)) rfl rfl rfl (.cons (AU.arr (n:=2) (i:=1) B1 (by decide) (by decide)) rfl rfl rfl .nil))) ?_
 refine Gm rfl (AQ (AA (Ae ?_)))
 refine Bl (.t4 12 0 1 11) ?_
 refine Bf (.t (.t (.t .h))) ?_
 refine DX (fun(j:Int) (t:AP) (g:Page.Pg)=>0≤j∧j≤2∧t=(Ew j.toNat).1∧g=(Ew j.toNat).2) (fun(j:Int) (t:AP) (g:Page.Pg)=>(2 - j).toNat) (fun(j:Int) (t:AP) (g:Page.Pg)=> [(12, .int .i64 j)]) (fun(j:Int) (t:AP) (g:Page.Pg)=> [Ac.box b 101 (Jq V k (ES t g))]) (0) (default) (⟨0,false,[],false⟩) ?_ rfl rfl (fun j t g hI1=>?_)
 · exact⟨by omega,by omega,rfl,rfl⟩
 obtain⟨hI11,hI12,hI13,hI14⟩:=hI1
 refine Gs (Gt (A8 rfl rfl) (AQ (AA (Ap ?_))))
 refine Gc (fun c1=>?_) (fun c1=>?_)
 ·
  have c1p:=kz c1
  refine Aa ?_
  refine AB (.t4 0 1 11 12) ?_
  refine AA (Ap (Ae (Gs ?_)))
  refine Gt (KQ B1 Tryz.underlying145 DB A4 rfl rfl (by first | omega | exact hk.1 | exact hk.2 | (have h1:=Fk t (Dy j);have h2:=IG (t.DQ (Dy j)).1 (Dy j);dsimp only [Dy,ES] at *;(try simp only [List.length_nil]);omega)) (by first | omega | exact hk.1 | exact hk.2 | (have h1:=Fk t (Dy j);have h2:=IG (t.DQ (Dy j)).1 (Dy j);dsimp only [Dy,ES] at *;(try simp only [List.length_nil]);omega)) rfl) ?_
  refine Ga rfl (Gn (.t5 0 1 5 11 12) (Gs (Ga rfl (Ga rfl (Gn (.t6 0 1 5 7 11 12) (CD (Gm rfl ?_)))))))
  refine Gm rfl (Gt (BV rfl) (Gt (Ai Ku rfl) (Gt (AZ rfl D6 .m0 ((AU.BM V hk.1 hk.2).comp A2.l2) rfl) (Gm rfl ?_))))
  refine BA rfl fU (.c rfl (.c rfl .n)) (fun w hS=>Ll _ _ w) ?_
  refine Gm rfl (Gt (AM rfl rfl) (Gt (AM rfl rfl) (Gt (AM rfl rfl) (Gt (BV rfl) (Gt (Ai Ku rfl) ?_)))))
  refine AT (AK ((AU.BM V hk.1 hk.2).comp A2.l2) rfl rfl rfl Ki rfl .h) ?_
  refine Ga rfl (Gn (.t7 0 1 5 6 7 11 12) (Gs (Gm rfl (Gt (Bi rfl rfl) (Gn (.t8 0 1 5 6 7 11 12 29) ?_)))))
  refine Gc (fun c2=>?_) (fun c2=>?_)
  ·
   have c2p:=kz c2
   refine AJ (Gm rfl (Gm rfl (Gt (BV rfl) (Gt (Ai Ku rfl) (Gt (AZ rfl D6 .m0 ((AU.BM V hk.1 hk.2).comp A2.l2) rfl) (Gm rfl ?_))))))
   refine BA rfl fG (.c rfl (.c rfl .n)) (fun w hS=>NX _ _ w) ?_
   refine Gm rfl (Gt (AM rfl rfl) (Gt (AM rfl rfl) (Gt (AM rfl rfl) (Gt (BV rfl) (Gt (Ai Ku rfl) ?_)))))
   refine AT (AK ((AU.BM V hk.1 hk.2).comp A2.l2) rfl rfl rfl Ki rfl .h) ?_
   refine Ga rfl (Gn (.t6 0 1 6 7 11 12) (AJ (Gm rfl (Gm rfl (Gt (BV rfl) (Gt (Ai D2 rfl) (Gt (AZ rfl C3 .m0 ((AU.BM V hk.1 hk.2).comp A2.l4) rfl) ?_)))))))
   refine Gm rfl (Gm rfl ?_)
   refine Gt (CX rfl rfl (by first | omega | exact hk.1 | exact hk.2 | (have h1:=Fk t (Dy j);have h2:=IG (t.DQ (Dy j)).1 (Dy j);dsimp only [Dy,ES] at *;(try simp only [List.length_nil]);omega))) ?_
   refine BA rfl XY (.c rfl (.c rfl .n)) (fun w hS=>EU _ _ (by simp only [List.length_append];have h1:=Fk t (Dy j);have h2:=IG (t.DQ (Dy j)).1 (Dy j);dsimp only [Dy,ES] at *;(try simp only [List.length_nil]);omega) w) ?_
   refine Gm rfl (Gt (AM rfl rfl) (Gt (AM rfl rfl) (Gt (BV rfl) (Gt (Ai D2 rfl) ?_))))
   refine AT (AK ((AU.BM V hk.1 hk.2).comp A2.l4) rfl rfl rfl Fw rfl .h) ?_
   refine AQ (AB (.t4 0 1 11 12) ?_)
   refine AW (AA ?_)
   refine GF (fun _=> .h) (congrArg (Jq V k) (show _=ES (IP t (Dy j)) (LM t g (Dy j)) from by rw [ES,LM,show IP t (Dy j)=_ from BB c2,show MK t (Dy j)=_ from BB c2];rfl)) ?_
   refine AJ ?_
   refine Gt (Av rfl rfl (IntWalk.i64_in _ (by first | omega | exact hk.1 | exact hk.2 | (have h1:=Fk t (Dy j);have h2:=IG (t.DQ (Dy j)).1 (Dy j);dsimp only [Dy,ES] at *;(try simp only [List.length_nil]);omega)))) ?_
   refine Gm rfl ?_
   refine AQ (AB (.t4 0 1 11 12) ?_)
   refine Bt (j+1) _ _ ?_ ?_ (.t4 12 0 1 11) (.refl _)
   · exact⟨by omega,by omega,by rw [HH hI11,← hI13,← hI14],by rw [HH hI11,← hI13,← hI14]⟩
   · omega
  have c2p:=kz c2
  refine Aa ?_
  refine AB (.t6 0 1 6 7 11 12) ?_
  refine AA (AJ (Gm rfl (Gm rfl (Gt (BV rfl) (Gt (Ai D2 rfl) (Gt (AZ rfl C3 .m0 ((AU.BM V hk.1 hk.2).comp A2.l4) rfl) (Gm rfl ?_)))))))
  refine Gm rfl ?_
  refine Gt (CX rfl rfl (by first | omega | exact hk.1 | exact hk.2 | (have h1:=Fk t (Dy j);have h2:=IG (t.DQ (Dy j)).1 (Dy j);dsimp only [Dy,ES] at *;(try simp only [List.length_nil]);omega))) ?_
  refine BA rfl XY (.c rfl (.c rfl .n)) (fun w hS=>EU _ _ (by simp only [List.length_append];have h1:=Fk t (Dy j);have h2:=IG (t.DQ (Dy j)).1 (Dy j);dsimp only [Dy,ES] at *;(try simp only [List.length_nil]);omega) w) ?_
  refine Gm rfl (Gt (AM rfl rfl) (Gt (AM rfl rfl) (Gt (BV rfl) (Gt (Ai D2 rfl) ?_))))
  refine AT (AK ((AU.BM V hk.1 hk.2).comp A2.l4) rfl rfl rfl Fw rfl .h) ?_
  refine AQ (AB (.t4 0 1 11 12) ?_)
  refine AW (AA ?_)
  refine GF (fun _=> .h) (congrArg (Jq V k) (show _=ES (IP t (Dy j)) (LM t g (Dy j)) from by rw [ES,LM,show IP t (Dy j)=_ from AX c2,show MK t (Dy j)=_ from AX c2];rfl)) ?_
  refine AJ ?_
  refine Gt (Av rfl rfl (IntWalk.i64_in _ (by first | omega | exact hk.1 | exact hk.2 | (have h1:=Fk t (Dy j);have h2:=IG (t.DQ (Dy j)).1 (Dy j);dsimp only [Dy,ES] at *;(try simp only [List.length_nil]);omega)))) ?_
  refine Gm rfl ?_
  refine AQ (AB (.t4 0 1 11 12) ?_)
  refine Bt (j+1) _ _ ?_ ?_ (.t4 12 0 1 11) (.refl _)
  · exact⟨by omega,by omega,by rw [HH hI11,← hI13,← hI14],by rw [HH hI11,← hI13,← hI14]⟩
  · omega
 have c1p:=kz c1
 obtain rfl:j=2:=by omega
 refine Ba (AV (AV (Af ?_)))
 refine AB (.t2 0 1) ?_
 refine AA (Ap ?_)
 refine Eb A7 9 1 ?_
 refine Eb A7 9 1 ?_
 refine Eb A7 9 1 ?_
 refine Eu (.c (.t (.t .h)) (.c (.t .h) (.c .h (.c .h (.c (.t (.t (.t .h))) .n))))) ?_
 refine HG hk.1 hk.2 (by rfl) (by rfl) (by rfl) ?_
 refine AJ (Gm rfl (Gm rfl ?_))
 refine Ah rfl UR (.c rfl (.c rfl (.c rfl .n))) (.c .h (.c .h (.c (.t (.t (.t .h))) .n))) (EO _ (AL.BM V k (ES t g)) (ls.put k ⟨[],[],[]⟩) ev k _ hk (by rw [Vector.CE hk.1 hk.2];exact Nat.zero_le _)) (fun v4 B hv=>?_)
 obtain⟨y5,y6,y7,rfl,y8,rfl⟩:=hv
 refine Gn (.t1 0) (AJ (Gm rfl ?_))
 refine BE rfl SC (.c rfl .n) (.c .h (.c .h (.c .h .n))) (Dz _ y5 y6 y7 (n+1) m (by rw [y8,(show A5 (AL.BM V k (ES t g)) (ls.put k ⟨[],[],[]⟩) ev=AI.set (A5 V ls ev) k (Cp (ES t g) Zb) from Iv V ls ev hk.1 hk.2 _ _)];exact(hF.comes hk.1 hk.2 t g).tell hk.1 hk.2 (show AI.Hb.length≤_ by decide)) (by omega) (by omega)) (fun w hS=>⟨gl0.pull gm0 hS (.c .h (.c .h (.c .h .n))),gl1.pull gm1 hS (.c .h (.c .h (.c .h .n))),gl2.pull gm2 hS (.c .h (.c .h (.c .h .n))),gl3.pull gm3 hS (.c .h (.c .h (.c .h .n)))⟩) (fun v9 B hv=>?_)
 obtain⟨y10,y11,y12,rfl,y13,rfl⟩:=hv
 refine AQ ?_
 refine Bk rfl .n ?_
 intro w1 hS
 have hS:=(hS.perm (Ay.perm (.c .h (.c .h (.c .h .n))))).A1
 refine⟨_,⟨y10,y11,y12,rfl,?ga1,rfl⟩,hS⟩
 case ga1=>rw [y13,y8,(show A5 (AL.BM V k (ES t g)) (ls.put k ⟨[],[],[]⟩) ev=AI.set (A5 V ls ev) k (Cp (ES t g) Zb) from Iv V ls ev hk.1 hk.2 _ _),hI13,hI14];unfold AI.J9;rw [← Pa];rfl
theorem E5 {α:Type}{ea:α→List Value}{o:Nat}{g:α→Int}{st:α→Int→α}(b V:Nat)(Y:α)(on:Bool)(opt yes no:Int)(h0:0≤yes∧yes≤255)(h1:0≤no∧no≤255)(h2:0≤opt∧opt≤255)(ln:AU ea Aw o 1 g st):Jg Tryz.prog 75 #[.pointer (some ⟨b,o,none⟩), .bool on, .int .i64 opt, .int .i64 yes, .int .i64 no] [Ac.box b V (ea Y)] (fun v B=>v=BU (AP.Ii (g Y) on opt yes no)∧B = [Ac.box b V (ea (st Y (AP.ZQ on)))]):=by
 intro w hS0
 refine Al _ _ Tryz.func75 rfl rfl rfl (hS0) ?_
 refine Gs (Ga rfl (Gn (.t5 0 1 2 3 4) (Gs (Gm rfl (Gt (BV rfl) (Gt (AH rfl A4 .m0 ln rfl rfl) (Ga rfl ?_)))))))
 refine Gn (.t6 0 1 2 3 4 11) (Gs (Gm rfl (Gt (BV rfl) ?_)))
 refine AT (AK ln rfl rfl rfl DB rfl .h) ?_
 refine Gn (.t6 0 1 2 3 4 11) (CD (Gm rfl (AQ (AA ?_))))
 refine Gc (fun c1=>?_) (fun c1=>?_)
 ·
  have c1p:=kz c1
  refine AJ (Gm rfl (Gt (BV rfl) ?_))
  refine AT (AK ln rfl rfl rfl DB rfl .h) ?_
  refine Gn (.t5 1 2 3 4 11) (Ap (Ae (Gs (Gm rfl (Gm rfl (Bo 22 rfl rfl (fun q=>AF rfl) (Bo 22 rfl rfl (fun q=>Ag (Bj rfl q) rfl) ?_)))))))
  refine Gt (BK rfl rfl (fun h=>h)) (Ga rfl (Gn (.t6 1 2 3 4 11 20) ?_))
  refine Gc (fun c2=>?_) (fun c2=>?_)
  ·
   have c2p:=kz c2
   refine Gs (Gm rfl (Gm rfl ?_))
   refine BA rfl Sp (.c rfl (.c rfl .n)) (fun w hS=>C2 _ _ (by first | assumption | omega) (by first | assumption | omega) w) ?_
   refine Ga rfl (Gn (.t1 10) (Ab (AR (AD ?_))))
   refine AY rfl (.tmp rfl .n) ?_
   intro w1 hS
   have hS:=(hS.perm (Ay.perm (.c .h .n))).A1
   exact⟨_,⟨by clear hS;simp_all [AP.Ii,Vt],by simp only [AP.ZQ,ln.KL,c1,c2,↓reduceIte,Bool.false_eq_true]⟩,hS⟩
  have c2p:=kz c2
  refine Gs (Gm rfl (Gt (BT rfl) (Gm rfl (Bo 32 rfl rfl (fun q=>AF rfl) (Bo 32 rfl rfl (fun q=>Ag (Bj rfl q) rfl) (Gt (BK rfl rfl (fun h=>h)) (Ga rfl ?_)))))))
  refine Gn (.t3 2 4 29) ?_
  refine Gc (fun c3=>?_) (fun c3=>?_)
  ·
   have c3p:=kz c3
   refine Gs (Gm rfl (Gm rfl ?_))
   refine BA rfl Sp (.c rfl (.c rfl .n)) (fun w hS=>C2 _ _ (by first | assumption | omega) (by first | assumption | omega) w) ?_
   refine Ga rfl (Gn (.t1 10) (Ab (AR (AD ?_))))
   refine AY rfl (.tmp rfl .n) ?_
   intro w1 hS
   have hS:=(hS.perm (Ay.perm (.c .h .n))).A1
   exact⟨_,⟨by clear hS;simp_all [AP.Ii,Vt],by simp only [AP.ZQ,ln.KL,c1,c2,c3,↓reduceIte,Bool.false_eq_true]⟩,hS⟩
  have c3p:=kz c3
  refine Aa ?_
  refine AB (.nil _) ?_
  refine AW (AA (Gs (Ga rfl (AQ (AA (Ab ?_))))))
  refine AY rfl (.tmp rfl .n) ?_
  intro w1 hS
  have hS:=(hS.perm (Ay.perm (.c .h .n))).A1
  exact⟨_,⟨by clear hS;simp_all [AP.Ii,Vt],by simp only [AP.ZQ,ln.KL,c1,c2,c3,↓reduceIte,Bool.false_eq_true]⟩,hS⟩
 have c1p:=kz c1
 refine Aa ?_
 refine AB (.t5 1 2 3 4 11) ?_
 refine AA (Ap (Ae (Gs (Gm rfl (Gm rfl (Bo 22 rfl rfl (fun q=>AF rfl) (Bo 22 rfl rfl (fun q=>Ag (Bj rfl q) rfl) ?_)))))))
 refine Gt (BK rfl rfl (fun h=>h)) (Ga rfl (Gn (.t6 1 2 3 4 11 20) ?_))
 refine Gc (fun c4=>?_) (fun c4=>?_)
 ·
  have c4p:=kz c4
  refine Gs (Gm rfl (Gm rfl ?_))
  refine BA rfl Sp (.c rfl (.c rfl .n)) (fun w hS=>C2 _ _ (by first | assumption | omega) (by first | assumption | omega) w) ?_
  refine Ga rfl (Gn (.t1 10) (Ab (AR (AD ?_))))
  refine AY rfl (.tmp rfl .n) ?_
  intro w1 hS
  have hS:=(hS.perm (Ay.perm (.c .h .n))).A1
  exact⟨_,⟨by clear hS;simp_all [AP.Ii,Vt],by simp only [AP.ZQ,ln.KL,c1,c4,↓reduceIte,Bool.false_eq_true]⟩,hS⟩
 have c4p:=kz c4
 refine Gs (Gm rfl (Gt (BT rfl) (Gm rfl (Bo 32 rfl rfl (fun q=>AF rfl) (Bo 32 rfl rfl (fun q=>Ag (Bj rfl q) rfl) (Gt (BK rfl rfl (fun h=>h)) (Ga rfl ?_)))))))
 refine Gn (.t3 2 4 29) ?_
 refine Gc (fun c5=>?_) (fun c5=>?_)
 ·
  have c5p:=kz c5
  refine Gs (Gm rfl (Gm rfl ?_))
  refine BA rfl Sp (.c rfl (.c rfl .n)) (fun w hS=>C2 _ _ (by first | assumption | omega) (by first | assumption | omega) w) ?_
  refine Ga rfl (Gn (.t1 10) (Ab (AR (AD ?_))))
  refine AY rfl (.tmp rfl .n) ?_
  intro w1 hS
  have hS:=(hS.perm (Ay.perm (.c .h .n))).A1
  exact⟨_,⟨by clear hS;simp_all [AP.Ii,Vt],by simp only [AP.ZQ,ln.KL,c1,c4,c5,↓reduceIte,Bool.false_eq_true]⟩,hS⟩
 have c5p:=kz c5
 refine Aa ?_
 refine AB (.nil _) ?_
 refine AW (AA (Gs (Ga rfl (AQ (AA (Ab ?_))))))
 refine AY rfl (.tmp rfl .n) ?_
 intro w1 hS
 have hS:=(hS.perm (Ay.perm (.c .h .n))).A1
 exact⟨_,⟨by clear hS;simp_all [AP.Ii,Vt],by simp only [AP.ZQ,ln.KL,c1,c4,c5,↓reduceIte,Bool.false_eq_true]⟩,hS⟩
theorem Ja (b:Nat)(X:AP)(verb opt:Int)(h0:0≤opt∧opt≤255):Jg Tryz.prog 56 #[.pointer (some ⟨b,0,none⟩), .int .i64 verb, .int .i64 opt] [Ac.box b 69 X.enc] (fun v B=>v=BU (X.B4 verb opt).2∧B = [Ac.box b 69 (X.B4 verb opt).1.enc]):=by
 intro w hS0
 refine Al _ _ Tryz.func56 rfl rfl rfl (hS0) ?_
 refine Gs (Ga rfl (Gn (.t3 0 1 2) (Gs (Gm rfl ?_))))
 refine BA rfl bO (.c rfl .n) (fun w hS=>F0 _ w) ?_
 refine Gm rfl (Gt (AM rfl rfl) (Gt (AM rfl rfl) (Gt (AM rfl rfl) (Ga rfl (Ga rfl (Ga rfl (Gn (.t6 0 1 2 7 8 9) ?_)))))))
 refine CD (Gm rfl (Gn (.t6 0 2 7 8 9 16) (Ae (Gs (Gt (Ag rfl rfl) (Ga rfl (Gn (.t7 0 2 7 8 9 16 17) ?_)))))))
 refine Gc (fun c1=>?_) (fun c1=>?_)
 ·
  have c1p:=kz c1
  refine CD (Gm rfl (Gt (BT rfl) (Gn (.t4 0 2 7 20) ?_)))
  refine Gc (fun c2=>?_) (fun c2=>?_)
  ·
   have c2p:=kz c2
   refine Gs (Gm rfl ?_)
   refine BA rfl Sp (.c rfl (.c rfl .n)) (fun w hS=>C2 _ _ (by first | assumption | omega) (by first | assumption | omega) w) ?_
   refine Ga rfl (Gn (.t1 6) (Ab (AD (AR (AD ?_)))))
   refine AY rfl (.tmp rfl .n) ?_
   intro w1 hS
   have hS:=(hS.perm (Ay.perm (.c .h .n))).A1
   exact⟨_,⟨by simp only [AP.B4,c1,c2,↓reduceIte,Bool.false_eq_true]<;>rfl,by simp only [AP.B4,c1,c2,↓reduceIte,Bool.false_eq_true]<;>rfl⟩,hS⟩
  have c2p:=kz c2
  have hk:=AP.Ou (opt:=opt) (by simpa using c2)
  have hk1:0≤(AP.place opt).1∧(AP.place opt).1 < 3:=by rcases hk with ⟨_,e⟩ | ⟨_,e⟩<;>rw [e]<;>decide
  refine Aa ?_
  refine AB (.t3 0 2 7) ?_
  refine AA (Gs (Gm rfl (Gm rfl (Gt (BV rfl) (Gt (Ai LK rfl) ?_)))))
  refine Gt (AS Kz rfl rfl (by omega) (by omega)) ?_
  refine Gm rfl ?_
  refine Ah rfl ZX (.c rfl (.c rfl (.c rfl (.c rfl (.c rfl .n))))) (.c .h .n) (E5 _ _ _ _ _ _ _ (by first | assumption | omega) (by first | assumption | omega) (by first | assumption | omega) (AP.l3.comp (AU.ar (n:=3) B1 (by omega)))) (fun v1 B hv=>?_)
  obtain⟨rfl,rfl⟩:=hv
  refine Ga rfl (Gn (.t1 6) (Ab (AR (AD ?_))))
  refine AY rfl (.tmp rfl .n) ?_
  intro w1 hS
  have hS:=(hS.perm (Ay.perm (.c .h .n))).A1
  exact⟨_,⟨by simp only [AP.B4,c1,c2,↓reduceIte,Bool.false_eq_true]<;>rfl,by simp only [AP.B4,c1,c2,↓reduceIte,Bool.false_eq_true]<;>rfl⟩,hS⟩
 have c1p:=kz c1
 refine Gs (Gt (Ag rfl rfl) (Ga rfl (Gn (.t7 0 2 7 8 9 16 30) ?_)))
 refine Gc (fun c3=>?_) (fun c3=>?_)
 ·
  have c3p:=kz c3
  refine Gs (Gm rfl (Gn (.t4 0 2 7 32) ?_))
  refine Gc (fun c4=>?_) (fun c4=>?_)
  ·
   have c4p:=kz c4
   have hk:=AP.Ou (opt:=opt) (by simpa using c4)
   have hk1:0≤(AP.place opt).1∧(AP.place opt).1 < 3:=by rcases hk with ⟨_,e⟩ | ⟨_,e⟩<;>rw [e]<;>decide
   refine Gs (Gm rfl (Gm rfl (Gt (BV rfl) (Gt (Ai LK rfl) ?_))))
   refine Gt (AS Kz rfl rfl (by omega) (by omega)) ?_
   refine Gm rfl ?_
   refine Ah rfl ZX (.c rfl (.c rfl (.c rfl (.c rfl (.c rfl .n))))) (.c .h .n) (E5 _ _ _ _ _ _ _ (by first | assumption | omega) (by first | assumption | omega) (by first | assumption | omega) (AP.l3.comp (AU.ar (n:=3) B1 (by omega)))) (fun v2 B hv=>?_)
   obtain⟨rfl,rfl⟩:=hv
   refine Ga rfl (Gn (.t1 6) (Ab (AR (AD ?_))))
   refine AY rfl (.tmp rfl .n) ?_
   intro w1 hS
   have hS:=(hS.perm (Ay.perm (.c .h .n))).A1
   exact⟨_,⟨by simp only [AP.B4,c1,c3,c4,↓reduceIte,Bool.false_eq_true]<;>rfl,by simp only [AP.B4,c1,c3,c4,↓reduceIte,Bool.false_eq_true]<;>rfl⟩,hS⟩
  refine Aa ?_
  refine AB (.nil _) ?_
  refine AW (AA (Gs (Ga rfl (AQ (AA (Ab ?_))))))
  refine AY rfl (.tmp rfl .n) ?_
  intro w1 hS
  have hS:=(hS.perm (Ay.perm (.c .h .n))).A1
  exact⟨_,⟨by simp only [AP.B4,c1,c3,c4,↓reduceIte,Bool.false_eq_true]<;>rfl,by simp only [AP.B4,c1,c3,c4,↓reduceIte,Bool.false_eq_true]<;>rfl⟩,hS⟩
 have c3p:=kz c3
 refine Gs (Gt (Ag rfl rfl) (Ga rfl (Gn (.t6 0 2 7 9 16 40) ?_)))
 refine Gc (fun c5=>?_) (fun c5=>?_)
 ·
  have c5p:=kz c5
  refine CD (Gm rfl (Gt (BT rfl) (Gn (.t4 0 2 7 43) ?_)))
  refine Gc (fun c6=>?_) (fun c6=>?_)
  ·
   have c6p:=kz c6
   refine Gs (Gm rfl ?_)
   refine BA rfl Sp (.c rfl (.c rfl .n)) (fun w hS=>C2 _ _ (by first | assumption | omega) (by first | assumption | omega) w) ?_
   refine Ga rfl (Gn (.t1 6) (Ab (AD (AR (AD ?_)))))
   refine AY rfl (.tmp rfl .n) ?_
   intro w1 hS
   have hS:=(hS.perm (Ay.perm (.c .h .n))).A1
   exact⟨_,⟨by simp only [AP.B4,c1,c3,c5,c6,↓reduceIte,Bool.false_eq_true]<;>rfl,by simp only [AP.B4,c1,c3,c5,c6,↓reduceIte,Bool.false_eq_true]<;>rfl⟩,hS⟩
  have c6p:=kz c6
  have hk:=AP.LG (opt:=opt) (by simpa using c6)
  have hk1:0≤(AP.place opt).1∧(AP.place opt).1 < 3:=by rcases hk with ⟨_,e⟩ | ⟨_,e⟩<;>rw [e]<;>decide
  refine Aa ?_
  refine AB (.t3 0 2 7) ?_
  refine AA (Gs (Gm rfl (Gm rfl (Gt (BV rfl) (Gt (Ai Jo rfl) ?_)))))
  refine Gt (AS Kz rfl rfl (by omega) (by omega)) ?_
  refine Gm rfl ?_
  refine Ah rfl ZX (.c rfl (.c rfl (.c rfl (.c rfl (.c rfl .n))))) (.c .h .n) (E5 _ _ _ _ _ _ _ (by first | assumption | omega) (by first | assumption | omega) (by first | assumption | omega) (AP.l4.comp (AU.ar (n:=3) B1 (by omega)))) (fun v3 B hv=>?_)
  obtain⟨rfl,rfl⟩:=hv
  refine Ga rfl (Gn (.t1 6) (Ab (AR (AD ?_))))
  refine AY rfl (.tmp rfl .n) ?_
  intro w1 hS
  have hS:=(hS.perm (Ay.perm (.c .h .n))).A1
  exact⟨_,⟨by simp only [AP.B4,c1,c3,c5,c6,↓reduceIte,Bool.false_eq_true]<;>rfl,by simp only [AP.B4,c1,c3,c5,c6,↓reduceIte,Bool.false_eq_true]<;>rfl⟩,hS⟩
 have c5p:=kz c5
 refine Gs (Gt (Ag rfl rfl) (Ga rfl (Gn (.t5 0 2 7 9 53) ?_)))
 refine Gc (fun c7=>?_) (fun c7=>?_)
 ·
  have c7p:=kz c7
  refine Gs (Gm rfl (Gn (.t4 0 2 7 55) ?_))
  refine Gc (fun c8=>?_) (fun c8=>?_)
  ·
   have c8p:=kz c8
   have hk:=AP.LG (opt:=opt) (by simpa using c8)
   have hk1:0≤(AP.place opt).1∧(AP.place opt).1 < 3:=by rcases hk with ⟨_,e⟩ | ⟨_,e⟩<;>rw [e]<;>decide
   refine Gs (Gm rfl (Gm rfl (Gt (BV rfl) (Gt (Ai Jo rfl) ?_))))
   refine Gt (AS Kz rfl rfl (by omega) (by omega)) ?_
   refine Gm rfl ?_
   refine Ah rfl ZX (.c rfl (.c rfl (.c rfl (.c rfl (.c rfl .n))))) (.c .h .n) (E5 _ _ _ _ _ _ _ (by first | assumption | omega) (by first | assumption | omega) (by first | assumption | omega) (AP.l4.comp (AU.ar (n:=3) B1 (by omega)))) (fun v4 B hv=>?_)
   obtain⟨rfl,rfl⟩:=hv
   refine Ga rfl (Gn (.t1 6) (Ab (AR (AD ?_))))
   refine AY rfl (.tmp rfl .n) ?_
   intro w1 hS
   have hS:=(hS.perm (Ay.perm (.c .h .n))).A1
   exact⟨_,⟨by simp only [AP.B4,c1,c3,c5,c7,c8,↓reduceIte,Bool.false_eq_true]<;>rfl,by simp only [AP.B4,c1,c3,c5,c7,c8,↓reduceIte,Bool.false_eq_true]<;>rfl⟩,hS⟩
  refine Aa ?_
  refine AB (.nil _) ?_
  refine AW (AA (Gs (Ga rfl (AQ (AA (Ab ?_))))))
  refine AY rfl (.tmp rfl .n) ?_
  intro w1 hS
  have hS:=(hS.perm (Ay.perm (.c .h .n))).A1
  exact⟨_,⟨by simp only [AP.B4,c1,c3,c5,c7,c8,↓reduceIte,Bool.false_eq_true]<;>rfl,by simp only [AP.B4,c1,c3,c5,c7,c8,↓reduceIte,Bool.false_eq_true]<;>rfl⟩,hS⟩
 refine Aa ?_
 refine AB (.nil _) ?_
 refine AW (AA (Gs (Ga rfl (AQ (AA (Ab ?_))))))
 refine AY rfl (.tmp rfl .n) ?_
 intro w1 hS
 have hS:=(hS.perm (Ay.perm (.c .h .n))).A1
 exact⟨_,⟨by simp only [AP.B4,c1,c3,c5,c7,↓reduceIte,Bool.false_eq_true]<;>rfl,by simp only [AP.B4,c1,c3,c5,c7,↓reduceIte,Bool.false_eq_true]<;>rfl⟩,hS⟩
theorem HD (b:Nat)(X:AP)(c:UInt8)(h0:X.sub.length≤16):Jg Tryz.prog 57 #[.pointer (some ⟨b,0,none⟩), .int .u8 (c.toNat:Int)] [Ac.box b 69 X.enc] (fun v B=>v = .tuple #[]∧B = [Ac.box b 69 (X.collect c).enc]):=by
 intro w hS0
 refine Al _ _ Tryz.func57 rfl rfl rfl (hS0) ?_
 refine Gs (Gm rfl (Gt (BV rfl) (Gt (Ai G6 rfl) (Gt (AH rfl CO .m0 AP.l2 rfl rfl) (Gt (BF rfl Tryz.underlying9 rfl) (Gt (A8 rfl rfl) (Gn (.t3 0 1 9) ?_)))))))
 refine Gc (fun c1=>?_) (fun c1=>?_)
 ·
  have c1p:=kz c1
  refine BD (N:=11) [0,1,3,7,0,16,48,127,255,511,1023] mix (by kernel_rfl) rfl ?_
  refine Pf 0 rfl (AF rfl) (Pf 1 rfl (BV rfl) (Pf 2 rfl (Ai G6 rfl) (Pf 3 rfl (AH rfl CO .m0 AP.l2 rfl rfl) (Pf 4 rfl (AF rfl) ?_))))
  refine An 5 rfl (by kernel_rfl) ?_
  refine Tl rfl Tryz.underlying105 VO bL rfl (by decide) (by decide) rfl rfl rfl (fun b1=>?_)
  refine Bu rfl ⟨?_,?_⟩
  · exact(Pk (Po rfl (AH rfl CO .m1 AP.l2 rfl rfl) rfl rfl (Po rfl (Ai G6 rfl) rfl rfl (Po rfl (BV rfl) rfl rfl (Po rfl (AF rfl) rfl rfl As)))))
  refine Pf 6 rfl (PI (s:= [c]) rfl Tryz.underlying105 Tryz.underlying9 Tryz.underlying5 rfl (Kn.own .m0)) ?_
  refine Pf 7 rfl (CX rfl rfl (by simp only [List.length_cons,List.length_nil];omega)) ?_
  refine Pf 8 rfl (BV rfl) (Pf 9 rfl (Ai G6 rfl) ?_)
  refine An 10 rfl (by kernel_rfl) ?_
  refine AT (AK AP.l2 rfl rfl rfl Em rfl (.t .h)) ?_
  refine BO rfl ⟨?_,?_⟩
  · exact(Pk (Pk (Pk (Pk (Pk (Pk (Pk (Pk (Pk As)))))))))
  refine A3 (by kernel_rfl) ?_
  refine Bk rfl .n ?_
  intro w1 hS
  have hS:=(hS.perm (Ay.perm (.c (.t .h) .n))).A1
  exact⟨_,⟨rfl,by simp only [AP.collect,c1,↓reduceIte,Bool.false_eq_true]⟩,hS⟩
 refine Aa ?_
 refine Bk rfl .n ?_
 intro w1 hS
 have hS:=(hS.perm (Ay.perm (.c .h .n))).A1
 exact⟨_,⟨rfl,by simp only [AP.collect,c1,↓reduceIte,Bool.false_eq_true]⟩,hS⟩
theorem Kc (b:Nat)(X:AP):Jg Tryz.prog 58 #[.pointer (some ⟨b,0,none⟩)] [Ac.box b 69 X.enc] (fun v B=>v = .tuple #[]∧B = [Ac.box b 69 X.measure.enc]):=by
 intro w hS0
 refine Al _ _ Tryz.func58 rfl rfl rfl (hS0) ?_
 refine Gs (Gm rfl (Gt (BV rfl) (Gt (Ai G6 rfl) (Gt (AH rfl CO .m0 AP.l2 rfl rfl) (Gt (BF rfl Tryz.underlying9 rfl) (Gt (Ag rfl rfl) (Gm rfl ?_)))))))
 refine Bo 8 rfl rfl (fun q=>AF rfl) (Bo 8 rfl rfl (fun q=>BV (Bj rfl q)) (Bo 8 rfl rfl (fun q=>Ai G6 (Bj rfl q)) (Bo 8 rfl rfl (fun q=>AH (Bj rfl q) CO .m0 AP.l2 rfl rfl) ?_)))
 refine Bo 8 rfl rfl (fun q=>by have q1:=q;(try simp at q1);exact Br Tryz.underlying9 (Bj rfl q) rfl (by decide) (by omega)) ?_
 refine Bo 8 rfl rfl (fun q=>Ag (Bj rfl q) rfl) (Gt (BK rfl rfl (fun h=>h)) (Gm rfl (Bo 16 rfl rfl (fun q=>AF rfl) (Bo 16 rfl rfl (fun q=>BV (Bj rfl q)) (Bo 16 rfl rfl (fun q=>Ai Jo (Bj rfl q)) ?_)))))
 refine Bo 16 rfl rfl (fun q=>AS Kz (Bj rfl q) rfl (by decide) (by decide)) ?_
 refine Bo 16 rfl rfl (fun q=>AH (Bj rfl q) A4 .m0 (AP.l4.comp (AU.arr (n:=3) B1 (by decide) (by decide))) rfl rfl) ?_
 refine Bo 16 rfl rfl (fun q=>Ag (Bj rfl q) rfl) (Gt (BK rfl rfl (fun h=>h)) (Gn (.t2 0 23) ?_))
 refine Gc (fun c1=>?_) (fun c1=>?_)
 ·
  have c1p:=kz c1
  refine BD (N:=19) [0,0,2,6,14,30,62,126,0,256,768,1792,3840,7936,16382,32766,65535,131071,262143] mix (by kernel_rfl) rfl ?_
  refine Pf 0 rfl (AF rfl) (Pf 1 rfl (AF rfl) (Pf 2 rfl (BV rfl) (Pf 3 rfl (Ai G6 rfl) (Pf 4 rfl (AH rfl CO .m0 AP.l2 rfl rfl) ?_))))
  refine Pf 5 rfl (Br Tryz.underlying9 rfl rfl (by decide) (by omega)) ?_
  refine Pf 6 rfl (Th Tryz.underlying3 Tryz.underlying5 rfl) (Pf 7 rfl (Zx rfl rfl) (Pf 8 rfl (AF rfl) (Pf 9 rfl (BV rfl) (Pf 10 rfl (Ai G6 rfl) (Pf 11 rfl (AH rfl CO .m0 AP.l2 rfl rfl) ?_)))))
  refine Pf 12 rfl (Br Tryz.underlying9 rfl rfl (by decide) (by omega)) ?_
  refine Pf 13 rfl (Th Tryz.underlying3 Tryz.underlying5 rfl) (Pf 14 rfl (bD rfl rfl) (Pf 15 rfl (Lb rfl rfl) (Pf 16 rfl (BV rfl) (Pf 17 rfl (Ai Qp rfl) ?_))))
  refine An 18 rfl (by kernel_rfl) ?_
  refine AT (AK AP.l5 rfl rfl rfl DB rfl .h) ?_
  refine BO rfl ⟨?_,?_⟩
  · exact(Pk (Pk (Pk (Pk (Pk (Pk (Pk (Pk (Pk (Pk (Pk (Pk (Pk (Pk (Pk (Pk (Pk (Pk As))))))))))))))))))
  refine A3 (by kernel_rfl) ?_
  refine Bk rfl .n ?_
  intro w1 hS
  have hS:=(hS.perm (Ay.perm (.c .h .n))).A1
  exact⟨_,⟨rfl,by rw [show X.measure=_ from BB c1];rfl⟩,hS⟩
 refine Aa ?_
 refine Bk rfl .n ?_
 intro w1 hS
 have hS:=(hS.perm (Ay.perm (.c .h .n))).A1
 exact⟨_,⟨rfl,by rw [show X.measure=_ from AX c1]⟩,hS⟩
end Go.Proofs.YtoidpggbbfncpaaGreatDoor
