/- What the functions that the law TopGood reaches compute: walks, part 5. No condition. -/
import Derived.Test.YtoidpggbbfncpaaGreatDoorCards
import Derived.Test.YtoidpggbbfncpaaGreatDoorTie
import Derived.Deep.DeepHandedRow
import Derived.Test.YtoidpggbbfncpaaGreatDoorRows
import Derived.Test.YtoidpggbbfncpaaGreatDoorTopGoodEc3
import Derived.Test.YtoidpggbbfncpaaGreatDoorTopGoodRa1
import Derived.Test.YtoidpggbbfncpaaGreatDoorTopGoodRb1
import Derived.Test.YtoidpggbbfncpaaGreatDoorTopGoodRc1
import Derived.Test.YtoidpggbbfncpaaGreatDoorTopGoodWalks
import Derived.Test.YtoidpggbbfncpaaGreatDoorTopGoodWalks2
import Derived.Test.YtoidpggbbfncpaaGreatDoorTopGoodWalks3
import Derived.Test.YtoidpggbbfncpaaGreatDoorTopGoodWalks4
set_option linter.unusedSimpArgs false
set_option linter.unusedVariables false
set_option maxRecDepth 100000
set_option maxHeartbeats 1000000
namespace Go.Proofs.YtoidpggbbfncpaaGreatDoor
open Go Go.Ing Go.RowKit Go.ChangeShapes Go.WideShapes Go.ChangeAt
theorem QU (b:Nat)(V:AL)(ls:Vector BI 4)(ev:List Ing.Event)(k:Int)(n m:Nat)(hk:0≤k∧k < 4)(hF:AI.Fit (A3 V ls ev) n m)(hn:n≤900000)(hm:m≤900000):FK Tryz.prog 77 #[.pointer (some ⟨b,0,none⟩), .pointer (some ⟨b,165+k.toNat * 22,none⟩)] [Ac.box b 101 (AL.enc V),Ac.Dv (CG 9 (AL.Ao V) ls),Ac.own (AL.last V) 56 16 ((ev).flatMap Ing.Event.enc)] (fun w=>(GV 2 Fo w∧2 ∉ Cf [Ac.box b 101 (AL.enc V),Ac.Dv (CG 9 (AL.Ao V) ls),Ac.own (AL.last V) 56 16 ((ev).flatMap Ing.Event.enc)])∧(GV 0 AH.DG w∧0 ∉ Cf [Ac.box b 101 (AL.enc V),Ac.Dv (CG 9 (AL.Ao V) ls),Ac.own (AL.last V) 56 16 ((ev).flatMap Ing.Event.enc)])∧(Gu 7 w∧7 ∉ Cf [Ac.box b 101 (AL.enc V),Ac.Dv (CG 9 (AL.Ao V) ls),Ac.own (AL.last V) 56 16 ((ev).flatMap Ing.Event.enc)])∧(Gu 8 w∧8 ∉ Cf [Ac.box b 101 (AL.enc V),Ac.Dv (CG 9 (AL.Ao V) ls),Ac.own (AL.last V) 56 16 ((ev).flatMap Ing.Event.enc)])) (fun v B=>∃ V' ls' ev',v = .tuple #[]∧A3 V' ls' ev'=AI.EN (A3 V ls ev) k∧B = [Ac.box b 101 (AL.enc V'),Ac.Dv (CG 9 (AL.Ao V') ls'),Ac.own (AL.last V') 56 16 ((ev').flatMap Ing.Event.enc)]):=by
 intro w hS0 hH
 obtain⟨⟨gl0,gm0⟩,⟨gl1,gm1⟩,⟨gl2,gm2⟩,⟨gl3,gm3⟩⟩:=hH
 refine Ak _ _ Tryz.func77 rfl rfl rfl (hS0) ?_
 refine CB (Gm rfl (Gt (BV rfl) (Gt (Ah JK rfl) (Gt (AG rfl A5 .m0 ((AL.l1.comp (AU.arr (n:=4) A2.fl hk.1 hk.2)).comp A2.l0) rfl rfl) (Gt (Aj rfl rfl) (Gn (.t3 0 1 11) ?_))))))
 refine Gc (fun c1=>?_) (fun c1=>?_)
 ·
  refine Ab (AD ?_)
  refine AZ rfl .n ?_
  intro w1 hS
  have hS:=(hS.perm (Ax.perm (.c .h (.c .h (.c .h .n))))).A1
  exact⟨_,⟨V,ls,ev,rfl,U4 hk.1 hk.2 c1,rfl⟩,hS⟩
 have c1p:=kz c1
 refine Aa ?_
 refine AB (.t2 0 1) ?_
 refine AA (Gs (Ga rfl (Gn (.t2 0 1) (Gs (Ga rfl (Gn (.t2 0 1) (Ap ?_)))))))
 refine Ap ?_
 refine E4 (k:=k) hk.1 hk.2 (fun sv sl hsv hlv hln=>?_)
 refine AJ (Gm rfl (Gm rfl (Gt (BV rfl) (Gt (Ah Ku rfl) (Gt (AY rfl Hu .m3 ((AU.BL V hk.1 hk.2).comp A2.l3) rfl) ?_)))))
 refine BF rfl dI (.c rfl .n) .n (N3 _ _ (by have h:=(Vs hF hk.1 hk.2).1;rw [hlv] at h;omega)) (fun w hS=>⟨(Kn.own .m0) w hS,(VG.own .m0) w hS⟩) (fun v1 B hv=>?_)
 rcases hv with ⟨y2,rfl,rfl⟩ | ⟨y3,y4,y5,y6,rfl,y7,rfl⟩
 ·
  refine Gm rfl (Gt (AN rfl rfl) (Gt (AN rfl rfl) (Gt (AN rfl rfl) (Gt (BV rfl) (Gt (Ah Ku rfl) ?_)))))
  refine AS (AK ((AU.BL V hk.1 hk.2).comp A2.l3) rfl rfl rfl MS rfl (.t (.t (.t .h)))) ?_
  refine Ga rfl (Ga rfl (Gn (.t4 0 1 4 5) (Gs (Gm rfl (Gt (BQ rfl) (Gn (.t4 0 1 4 25) ?_))))))
  refine G4 rfl rfl ?_
  refine Ab (AD ?_)
  refine AZ rfl .n ?_
  intro w1 hS
  have hS:=(hS.perm (Ax.perm (.c .h (.c .h (.c .h (.c .h (.c .h (.c .h .n)))))))).A1
  have hS:=hS.close' hk.1 hk.2 (by rfl) (by rfl) (by rfl)
  refine⟨_,⟨V.BL k sv,ls.put k ⟨sl.queue,sl.wait,sl.told⟩,ev,rfl,?ga2,rfl⟩,hS⟩
  case ga2=>exact VS hk.1 hk.2 hsv hlv y2 c1
 refine Gm rfl (Gt (AN rfl rfl) (Gt (AN rfl rfl) (Gt (AN rfl rfl) (Gt (BV rfl) (Gt (Ah Ku rfl) ?_)))))
 refine AS (AK ((AU.BL V hk.1 hk.2).comp A2.l3) rfl rfl rfl MS rfl (.t (.t (.t (.t .h))))) ?_
 refine Ga rfl (Ga rfl (Gn (.t4 0 1 4 5) (Gs (Gm rfl (Gt (BQ rfl) (Gn (.t4 0 1 4 25) ?_))))))
 refine DD rfl rfl ?_
 refine Aa ?_
 refine AB (.t3 0 1 4) ?_
 refine AA (Gs (Gm rfl (Gt (BV rfl) (Gt (Ah Dn rfl) (Gt (Ah Q0 rfl) (Gt (AG rfl DN .m4 (((AU.BL V hk.1 hk.2).comp A2.l4).comp As.l2) rfl rfl) (Ga rfl ?_)))))))
 refine Gn (.t4 0 1 4 6) (Gs (Gm rfl (Gm rfl (Gt (BV rfl) (Gt (Ah Dn rfl) (Gt (AY rfl Cr .m4 ((AU.BL V hk.1 hk.2).comp A2.l4) rfl) ?_))))))
 refine BA rfl dV (.c rfl .n) (fun w hS=>Mz _ w) ?_
 refine Gt (BV rfl) (Gt (Ah Dn rfl) ?_)
 refine AS (AK ((AU.BL V hk.1 hk.2).comp A2.l4) rfl rfl rfl FO rfl (.t (.t (.t (.t .h))))) ?_
 refine Gn (.t4 0 1 4 6) (Ae (Ap ?_))
 refine EJ (.c .h (.c (.t .h) (.c (.t .h) (.c (.t .h) (.c (.t .h) .n))))) ?_
 refine HA hk.1 hk.2 (by rfl) (by rfl) (by rfl) ?_
 refine AJ (Gm rfl (Ga rfl (Gn (.t4 0 1 4 43) ?_)))
 refine Gc (fun c2=>?_) (fun c2=>?_)
 ·
  refine Aa ?_
  refine AB (.nil _) ?_
  refine AV ?_
  refine Bk rfl .n ?_
  intro w1 hS
  have hS:=(hS.perm (Ax.perm (.c .h (.c .h (.c (.t .h) .n))))).A1
  exact⟨_,⟨(AL.BL V k { sv with EE:=⟨sv.EE.now,sv.EE.Cq,sv.EE.ret,y6⟩,out:=⟨sv.out.wait,0,false,sv.out.ring,sv.out.cut⟩ }),(ls.put k ⟨y4,sl.wait,sl.told⟩),ev,rfl,(Dg (ev:=ev) hk.1 hk.2 hsv hlv y5 c1 y6).1.trans ((Dg (ev:=ev) hk.1 hk.2 hsv hlv y5 c1 y6).2.2.trans (if_pos c2)).symm,rfl⟩,hS⟩
 have c2p:=kz c2
 refine Gs (Gm rfl (Gt (BV rfl) (Gt (Ah JK rfl) (Gt (AG rfl A5 .m0 ((AL.l1.comp (AU.arr (n:=4) A2.fl hk.1 hk.2)).comp A2.l0) rfl rfl) (Gt (Aj rfl rfl) (Ga rfl (Gn (.t4 0 1 4 45) ?_)))))))
 refine Gc (fun c3=>?_) (fun c3=>?_)
 ·
  have c3p:=kz c3
  refine AJ (Gm rfl (Gm rfl (Gm rfl ?_)))
  refine BA rfl cJ (.c rfl (.c rfl .n)) (fun w hS=>H2 y3 (by have h:y3.length≤1000:=(by have h:=(hF.queue k hk.1 hk.2).2 y3 (by rw [(Dg (ev:=ev) hk.1 hk.2 hsv hlv y5 c1 y6).2.1];exact List.mem_cons_self ..);omega);omega) w) ?_
  refine BF rfl dX (.c rfl (.c rfl (.c rfl .n))) (.c .h (.c .h (.c (.t .h) .n))) (Qo _ (AL.BL V k { sv with EE:=⟨sv.EE.now,sv.EE.Cq,sv.EE.ret,y6⟩,out:=⟨sv.out.wait,0,false,sv.out.ring,sv.out.cut⟩ }) (ls.put k ⟨y4,sl.wait,sl.told⟩) ev k _ n m hk (by rw [(Dg (ev:=ev) hk.1 hk.2 hsv hlv y5 c1 y6).1];exact hF.Fw hk.1 hk.2 (Dg (ev:=ev) hk.1 hk.2 hsv hlv y5 c1 y6).2.1) hn hm (by have h:y3.length≤1000:=(by have h:=(hF.queue k hk.1 hk.2).2 y3 (by rw [(Dg (ev:=ev) hk.1 hk.2 hsv hlv y5 c1 y6).2.1];exact List.mem_cons_self ..);omega);have h1:=Words.LQ 32 (Words.Rq 32 y3);have h2:=Words.QR 32 y3;omega)) (fun w hS=>⟨gl0.pull gm0 hS (.c .h (.c .h (.c (.t .h) .n))),gl1.pull gm1 hS (.c .h (.c .h (.c (.t .h) .n)))⟩) (fun v9 B hv=>?_)
  obtain⟨y10,y11,y12,rfl,y13,rfl⟩:=hv
  refine AR (AB (.nil _) ?_)
  refine AV ?_
  refine Bk rfl .n ?_
  intro w1 hS
  have hS:=(hS.perm (Ax.perm (.c .h (.c .h (.c .h .n))))).A1
  have c9:decide (sv.state=1)=true:=by
    have h:=c3
    rw [show(AL.Ao (AL.BL V k { sv with EE:=⟨sv.EE.now,sv.EE.Cq,sv.EE.ret,y6⟩,out:=⟨sv.out.wait,0,false,sv.out.ring,sv.out.cut⟩ })).at k=_ from Vector.CD hk.1 hk.2] at h
    exact h
  refine⟨_,⟨y10,y11,y12,rfl,?ga4,rfl⟩,hS⟩
  case ga4=>exact y13.trans ((congrArg (fun X=>AI.named X k _) (Dg (ev:=ev) hk.1 hk.2 hsv hlv y5 c1 y6).1).trans ((Dg (ev:=ev) hk.1 hk.2 hsv hlv y5 c1 y6).2.2.trans ((AX c2).trans (BB c9))).symm)
 have c3p:=kz c3
 refine AJ (Gm rfl (Gm rfl (Gm rfl ?_)))
 refine BF rfl dR (.c rfl (.c rfl (.c rfl .n))) (.c .h (.c .h (.c (.t .h) .n))) (PL _ (AL.BL V k { sv with EE:=⟨sv.EE.now,sv.EE.Cq,sv.EE.ret,y6⟩,out:=⟨sv.out.wait,0,false,sv.out.ring,sv.out.cut⟩ }) (ls.put k ⟨y4,sl.wait,sl.told⟩) ev k _ n m hk (by rw [(Dg (ev:=ev) hk.1 hk.2 hsv hlv y5 c1 y6).1];exact hF.Fw hk.1 hk.2 (Dg (ev:=ev) hk.1 hk.2 hsv hlv y5 c1 y6).2.1) hn hm (by have h:=(hF.queue k hk.1 hk.2).2 y3 (by rw [(Dg (ev:=ev) hk.1 hk.2 hsv hlv y5 c1 y6).2.1];exact List.mem_cons_self ..);omega)) (fun w hS=>⟨gl0.pull gm0 hS (.c .h (.c .h (.c (.t .h) .n))),gl1.pull gm1 hS (.c .h (.c .h (.c (.t .h) .n))),gl2.pull gm2 hS (.c .h (.c .h (.c (.t .h) .n))),gl3.pull gm3 hS (.c .h (.c .h (.c (.t .h) .n)))⟩) (fun v14 B hv=>?_)
 obtain⟨y15,y16,y17,rfl,y18,rfl⟩:=hv
 refine AR (AB (.nil _) ?_)
 refine AV ?_
 refine Bk rfl .n ?_
 intro w1 hS
 have hS:=(hS.perm (Ax.perm (.c .h (.c .h (.c .h .n))))).A1
 have c9:decide (sv.state=1)=false:=by
   have h:=c3
   rw [show(AL.Ao (AL.BL V k { sv with EE:=⟨sv.EE.now,sv.EE.Cq,sv.EE.ret,y6⟩,out:=⟨sv.out.wait,0,false,sv.out.ring,sv.out.cut⟩ })).at k=_ from Vector.CD hk.1 hk.2] at h
   exact h
 refine⟨_,⟨y15,y16,y17,rfl,?ga5,rfl⟩,hS⟩
 case ga5=>exact y18.trans ((congrArg (fun X=>AI.order X k _) (Dg (ev:=ev) hk.1 hk.2 hsv hlv y5 c1 y6).1).trans ((Dg (ev:=ev) hk.1 hk.2 hsv hlv y5 c1 y6).2.2.trans ((AX c2).trans (AX c9))).symm)
theorem Nj (X:AH)(b:Int)(hF:(AF.FM X b).Fit):FK Tryz.prog 97 #[.agg X.enc.toArray, .int .i64 b] [] (fun w=>(GV 0 AH.DG w∧0 ∉ Cf [])) (fun v B=>∃ h:Hd,v = .tuple #[.agg ((AF.Hi X b).w.enc).toArray,h.val]∧h.len=(AF.Hi X b).out.length∧B = [Ac.own h 56 16 ((AF.Hi X b).out.flatMap Ing.Event.enc)]):=by
 intro w hS0 hH
 obtain⟨gl0,gm0⟩:=hH
 have hb:0≤b∧b < 6:=hF.b
 refine Ak _ _ Tryz.func97 rfl rfl rfl (hS0) ?_
 refine Gs ?_
 refine B5 rfl rfl rfl (fun b1=>?_)
 refine BD rfl L6 rfl (fun b2=>?_)
 refine Ga rfl (Gn (.t3 1 2 4) (Gs (Gt (AY rfl BW .m1 (AU.id AH.fl.len AH.fl.one) rfl) (Gm rfl (Gt (BC UT Tz rfl (.cons Ad.l0 rfl rfl rfl (.cons Ad.l1 rfl rfl rfl .nil))) ?_)))))
 refine B5 rfl rfl rfl (fun b3=>?_)
 refine Ga rfl (Gn (.t3 1 4 6) (Gs (Gm rfl (Gm rfl (Gt (BV rfl) (Gt (Ah A9 rfl) (Gt (Ah Bi rfl) ?_)))))))
 refine Gt (AQ Cs rfl rfl (by first | omega | exact hb.1 | exact hb.2 | (dsimp only;omega)) (by first | omega | exact hb.1 | exact hb.2 | (dsimp only;omega))) ?_
 refine Gt (Ah Jg rfl) ?_
 refine AS (AK (((Ad.l0.comp AH.l2).comp (AU.ar (n:=6) Ag.fl (by first | omega | exact hb | (dsimp only;omega)))).comp Ag.l4) rfl rfl rfl DB rfl .h) ?_
 refine Gn (.t3 1 4 6) (Gs (Gm rfl ?_))
 refine DU Ing.Event.enc 56 16 ?_
 refine Ai rfl Ty (.c rfl (.c rfl .n)) (.c (.t .h) (.c .h .n)) (GJ _ (AF.FM X b) _ 15 rfl hb (Nat.zero_le _)) (fun v2 B hv=>?_)
 obtain⟨y3,rfl,y4,rfl⟩:=hv
 refine Gn (.t3 1 4 6) (Gs (Gm rfl ?_))
 refine Ai rfl ZO (.c rfl .n) (.c .h .n) (LS _ ((AF.FM X b).kind 15) _ (hF.Ef rfl rfl)) (fun v5 B hv=>?_)
 obtain⟨y6,y7,rfl,rfl⟩:=hv
 refine Gn (.t3 1 4 6) (CB (Gm rfl (Gt (A8 rfl rfl) (Gn (.t4 1 4 6 24) ?_))))
 refine Gc (fun c1=>?_) (fun c1=>?_)
 ·
  have c1p:=kz c1
  refine Gs (Gm rfl (Gm rfl (Gt (BC Wc Lx rfl .nil) (Gt (BV rfl) (Gt (Ah A9 rfl) (Gt (Ah Bi rfl) ?_))))))
  refine Gt (AQ Cs rfl rfl (by first | omega | exact hb.1 | exact hb.2 | (dsimp only;omega)) (by first | omega | exact hb.1 | exact hb.2 | (dsimp only;omega))) ?_
  refine AS (AK ((Ad.l0.comp AH.l2).comp (AU.ar (n:=6) Ag.fl (by first | omega | exact hb | (dsimp only;omega)))) rfl rfl rfl KX rfl .h) ?_
  refine Gn (.t2 4 6) (Ap ?_)
  refine BE (N:=10) [0,1,3,7,0,16,48,112,15,511] mix (by kernel_rfl) rfl ?_
  refine Pf 0 rfl (AE rfl) (Pf 1 rfl (BV rfl) (Pf 2 rfl (Ah A9 rfl) (Pf 3 rfl (AY rfl BW .m0 Ad.l0 rfl) (Pf 4 rfl (AE rfl) (Pf 5 rfl (BV rfl) (Pf 6 rfl (Ah CK rfl) (Pf 7 rfl (AG rfl Dl .m0 Ad.l2 rfl rfl) ?_)))))))
  refine An 8 rfl (by kernel_rfl) ?_
  refine AS (AK (AU.id AH.fl.len AH.fl.one) rfl rfl rfl D3 rfl (.t (.t .h))) ?_
  refine BO rfl ⟨?_,?_⟩
  · exact(Po rfl (AG rfl Dl .m0 Ad.l2 rfl rfl) rfl rfl (Po rfl (Ah CK rfl) rfl rfl (Po rfl (BV rfl) rfl rfl (Po rfl (AE rfl) rfl rfl (Pk (Pk (Pk (Pk Ar))))))))
  refine Pf 9 rfl (A0 rfl) ?_
  refine A4 (by kernel_rfl) ?_
  refine AB (.t2 4 5) ?_
  refine AA (Ab (AD ?_))
  refine AZ rfl (.cell rfl .m2 (.inl ⟨(by rw [AH.fl.len];exact BW),rfl⟩) (.tmp rfl .n)) ?_
  intro w1 hS
  have hS:=(hS.perm (Ax.perm (.c (.t .h) .n))).A1
  have hq:AF.Hi X b=_:=BB c1
  rw [AF.Um y7] at hq
  refine⟨_,⟨y3,?hv,?hl,?hB⟩,hS⟩
  case hv=>rw [hq];rfl
  case hl=>rw [hq];exact y4
  case hB=>rw [hq]
 have c1p:=kz c1
 refine Aa ?_
 refine AB (.t3 1 4 6) ?_
 refine AA (Gs (Gm rfl (Gm rfl (Gt (BV rfl) (Gt (Ah A9 rfl) (Gt (Ah Bi rfl) ?_))))))
 refine Gt (AQ Cs rfl rfl (by first | omega | exact hb.1 | exact hb.2 | (dsimp only;omega)) (by first | omega | exact hb.1 | exact hb.2 | (dsimp only;omega))) ?_
 refine Ga rfl (Gn (.t3 4 6 7) (Gs (Gm rfl (Gm rfl (Gt (BV rfl) (Gt (Ah C2 rfl) ?_))))))
 refine AS (AK (((Ad.l0.comp AH.l2).comp (AU.ar (n:=6) Ag.fl (by first | omega | exact hb | (dsimp only;omega)))).comp Ag.l3) rfl rfl rfl DB rfl .h) ?_
 refine Gt (BV rfl) (Gt (Ah Jg rfl) ?_)
 refine AS (AK (((Ad.l0.comp AH.l2).comp (AU.ar (n:=6) Ag.fl (by first | omega | exact hb | (dsimp only;omega)))).comp Ag.l4) rfl rfl rfl DB rfl .h) ?_
 refine Gn (.t2 4 6) (Ap ?_)
 refine GC (fun _=> .h) (congrArg (fun q=>Ad.enc ⟨q,b,y3⟩) (AF.YV y6 hb)) ?_
 have hT2:=AF.YR y7
 have hf2:=AF.R7 hF
 rw [hT2] at hf2
 refine AJ (Gm rfl ?_)
 refine Ai rfl Ty (.c rfl (.c rfl .n)) (.c .h (.c .h .n)) (GJ _ (⟨y6.C4 b { y6.AM.at b with room:=0,BK:=10 },b,((AF.FM X b).kind 15).out⟩:AF) _ 17 y4 hb (by decide:(0:Nat)+1≤100000)) (fun v8 B hv=>?_)
 obtain⟨y9,rfl,y10,rfl⟩:=hv
 refine Gn (.t2 4 6) (Gs (Gm rfl ?_))
 refine BF rfl Ub (.c rfl .n) (.c .h (.c .h .n)) (HE _ ((⟨y6.C4 b { y6.AM.at b with room:=0,BK:=10 },b,((AF.FM X b).kind 15).out⟩:AF).kind 17) _ y10 hb hf2.br (by decide:(0:Nat)+1+1≤90000)) (fun w hS=>gl0.pull gm0 hS (.c .h (.c .h .n))) (fun v11 B hv=>?_)
 obtain⟨y12,rfl,y13,rfl⟩:=hv
 refine Gn (.t2 4 6) (Ap ?_)
 refine BE (N:=10) [0,1,3,7,0,16,48,112,15,511] mix (by kernel_rfl) rfl ?_
 refine Pf 0 rfl (AE rfl) (Pf 1 rfl (BV rfl) (Pf 2 rfl (Ah A9 rfl) (Pf 3 rfl (AY rfl BW .m0 Ad.l0 rfl) (Pf 4 rfl (AE rfl) (Pf 5 rfl (BV rfl) (Pf 6 rfl (Ah CK rfl) (Pf 7 rfl (AG rfl Dl .m0 Ad.l2 rfl rfl) ?_)))))))
 refine An 8 rfl (by kernel_rfl) ?_
 refine AS (AK (AU.id AH.fl.len AH.fl.one) rfl rfl rfl D3 rfl (.t (.t .h))) ?_
 refine BO rfl ⟨?_,?_⟩
 · exact(Po rfl (AG rfl Dl .m0 Ad.l2 rfl rfl) rfl rfl (Po rfl (Ah CK rfl) rfl rfl (Po rfl (BV rfl) rfl rfl (Po rfl (AE rfl) rfl rfl (Pk (Pk (Pk (Pk Ar))))))))
 refine Pf 9 rfl (A0 rfl) ?_
 refine A4 (by kernel_rfl) ?_
 refine AB (.t2 4 5) ?_
 refine AA (Ab ?_)
 refine AZ rfl (.cell rfl .m2 (.inl ⟨(by rw [AH.fl.len];exact BW),rfl⟩) (.tmp rfl .n)) ?_
 intro w1 hS
 have hS:=(hS.perm (Ax.perm (.c (.t .h) .n))).A1
 have hq:AF.Hi X b=_:=AX c1
 rw [hT2] at hq
 refine⟨_,⟨y12,?hv,?hl,?hB⟩,hS⟩
 case hv=>rw [hq];rfl
 case hl=>rw [hq];exact y13
 case hB=>rw [hq]
theorem Mc (X:AH)(d:Int)(hw:X.DH):FK Tryz.prog 78 #[.agg X.enc.toArray, .int .i64 d] [] (fun w=>(GV 0 AH.DG w∧0 ∉ Cf [])) (fun v B=>∃ h:Hd,v = .tuple #[.agg ((AF.CV X d).1.enc).toArray,h.val, .int .i64 (AF.CV X d).2.2]∧h.len=(AF.CV X d).2.1.length∧B = [Ac.own h 56 16 ((AF.CV X d).2.1.flatMap Ing.Event.enc)]):=by
 intro w hS0 hH
 obtain⟨gl0,gm0⟩:=hH
 have hm:=Ct d
 refine Ak _ _ Tryz.func78 rfl rfl rfl (hS0) ?_
 refine Gs ?_
 refine B5 rfl rfl rfl (fun b1=>?_)
 refine BD rfl L6 rfl (fun b2=>?_)
 refine Ga rfl (Ga rfl (Gn (.t3 1 2 4) (CB (Gt (AY rfl BW .m1 (AU.id AH.fl.len AH.fl.one) rfl) ?_))))
 refine BA rfl Yc (.c rfl .n) (fun w hS=>Fk _ w) ?_
 refine Gt (BQ rfl) (Gn (.t4 1 2 4 16) ?_)
 refine Gc (fun c1=>?_) (fun c1=>?_)
 ·
  refine Gs (Gt (AY rfl BW .m1 (AU.id AH.fl.len AH.fl.one) rfl) ?_)
  refine AS (AK (AU.id AH.fl.len AH.fl.one) rfl rfl rfl D3 rfl .h) ?_
  refine Ga rfl (Ga rfl (Gn (.t3 4 5 6) (Ab (AD ?_))))
  refine AZ rfl (.cell rfl .m0 (.inl ⟨(by rw [AH.fl.len];exact BW),rfl⟩) (.tmp rfl (.tmp rfl .n))) ?_
  intro w1 hS
  have hS:=hS.Co 56 16
  have hS:=(hS.perm (Ax.perm (.c .h .n))).A1
  have hq:AF.CV X d=_:=BB c1
  refine⟨_,⟨⟨none,0,0⟩,?hv,?hl,?hB⟩,hS⟩
  case hv=>rw [hq];rfl
  case hl=>rw [hq];rfl
  case hB=>rw [hq];rfl
 have c1p:=kz c1
 refine Aa ?_
 refine AB (.t3 1 2 4) ?_
 refine AA (Gs (Ga rfl (AR (AA (CB (Gm rfl (AR ?_)))))))
 refine AA (Ae ?_)
 refine Bo (.t5 7 18 1 2 4) ?_
 refine E0 Ing.Event.enc 56 16 ?_
 refine Bh (.t (.t .h)) ?_
 refine Bh (.t .h) ?_
 refine Dt (fun(k:Int) (s:AH × List Ing.Event) (h:Hd)=>0≤k∧k≤6∧s=AF.DW X d k.toNat∧s.1.Bb=true∧s.1.DH∧(s.2.length:Int)≤13 * k∧h.len=s.2.length) (fun(k:Int) (s:AH × List Ing.Event) (h:Hd)=>(6 - k).toNat) (fun(k:Int) (s:AH × List Ing.Event) (h:Hd)=> [(7,h.val),(18, .int .i64 k)]) (fun(k:Int) (s:AH × List Ing.Event) (h:Hd)=> [Ac.own h 56 16 (s.2.flatMap Ing.Event.enc),Ac.box b1 35 (AH.enc s.1)]) (0) ((X,[])) (_) ?_ rfl rfl (fun k s h hI1=>?_)
 · exact⟨by omega,by omega,rfl,by simpa using c1,hw,by simp,rfl⟩
 obtain⟨hI11,hI12,hI13,hI14,hI15,hI16,hI17⟩:=hI1
 refine Gs (Gt (A8 rfl rfl) (AR (AA (Ap ?_))))
 refine Gc (fun c2=>?_) (fun c2=>?_)
 ·
  have c2p:=kz c2
  have hbe:=AF.G8 hI14 hI11 (show k < 6 by omega)
  have hfo:=hbe.Bz
  refine Aa ?_
  refine AB (.t5 1 2 4 7 18) ?_
  refine AA (Ap (Ae (Gs (Gm rfl (Ga rfl (Gn (.t6 1 2 4 7 8 18) (Gs ?_)))))))
  refine Gm rfl (Gt (Ah Bi rfl) ?_)
  refine Gt (AQ Cs rfl rfl (by first | omega | (dsimp only;omega) | (have:=Ct (d.tmod 3+3+k);omega)) (by first | omega | (dsimp only;omega) | (have:=Ct (d.tmod 3+3+k);omega))) ?_
  refine Gt (AY rfl Fl .m1 (AH.l2.comp (AU.arr (n:=6) Ag.fl (by first | omega | (dsimp only;omega) | (have:=Ct (d.tmod 3+3+k);omega)) (by first | omega | (dsimp only;omega) | (have:=Ct (d.tmod 3+3+k);omega)))) rfl) ?_
  refine BD rfl Lx rfl (fun b3=>?_)
  refine AS (AK (AU.id Ag.fl.len Ag.fl.one) rfl rfl rfl KX rfl .h) ?_
  refine Gn (.t7 1 2 4 7 8 9 18) (CB (Gt (Ah F8 rfl) (Gt (AG rfl DN .m0 Ag.l1 rfl rfl) (Gt (BQ rfl) (Gm rfl (BZ 28 rfl rfl (fun q=>Ah GD rfl) (BZ 28 rfl rfl (fun q=>AG (cF rfl q) A5 .m0 Ag.l5 rfl rfl) ?_)))))))
  refine BZ 28 rfl rfl (fun q=>Aj (cF rfl q) rfl) ?_
  refine Gt (BS rfl rfl (fun h=>by rw [h];rfl)) ?_
  refine Gn (.t8 1 2 4 7 8 9 18 32) ?_
  refine Gc (fun c3=>?_) (fun c3=>?_)
  ·
   have c3p:=kz c3
   refine Ba (AW (Af ?_))
   refine AB (.t5 1 2 4 7 18) ?_
   refine AA (AJ ?_)
   refine Gt (Aw rfl rfl (IntWalk.i64_in _ (by first | omega | (dsimp only;omega) | (have:=Ct (d.tmod 3+3+k);omega)))) ?_
   refine Gm rfl ?_
   refine AR (AB (.t5 1 2 4 7 18) ?_)
   refine Bw (k+1) (s) _ ?_ ?_ (.t5 7 18 1 2 4) (.cons _ (.refl _))
   · have hrs:AF.EG d k s=_:=(BB c3)
     have hrg:=AF.FY (draw:=d) hI14 hI15 hI11 (by omega)
     rw [hrs] at hrg
     exact⟨by omega,by omega,by rw [AF.Hx hI11,← hI13,hrs],hrg.1,hrg.2.1,(by have:=hrg.2.2;omega),(by first | assumption | (have hso:(AF.CC s.1 k ((s.1.AM.at k).Bz - 1) (AF.Lg d k)).out.length=1:=rfl;(try dsimp only at *);simp only [List.length_append] at *;omega))⟩
   · omega
  have c3p:=kz c3
  have hf0:0≤((s.1.AM.at k).Bz - 1)∧((s.1.AM.at k).Bz - 1) < 6:=by omega
  have hbf:=(AF.G8 hI14 hf0.1 hf0.2).BK
  refine Aa ?_
  refine AB (.t7 1 2 4 7 8 9 18) ?_
  refine AA (Gs (Gt (Ah GD rfl) (Gt (AG rfl A5 .m0 Ag.l5 rfl rfl) ?_)))
  refine Gt (FR rfl rfl (IntWalk.i64_in _ (by first | omega | (dsimp only;omega) | (have:=Ct (d.tmod 3+3+k);omega)))) ?_
  refine Ga rfl (Gn (.t8 1 2 4 7 8 9 10 18) (Ap (Ap ?_)))
  refine BE (N:=16) [0,0,3,7,15,31,63,127,127,511,1023,2047,127,4223,16383,32767] mix (by kernel_rfl) rfl ?_
  refine Pf 0 rfl (AE rfl) (Pf 1 rfl (Ah Bi rfl) ?_)
  refine Pf 2 rfl (AQ Cs rfl rfl (by first | omega | (dsimp only;omega) | (have:=Ct (d.tmod 3+3+k);omega)) (by first | omega | (dsimp only;omega) | (have:=Ct (d.tmod 3+3+k);omega))) ?_
  refine Pf 3 rfl (Ah F8 rfl) ?_
  refine Pf 4 rfl (AG rfl DN .m2 ((AH.l2.comp (AU.arr (n:=6) Ag.fl (by first | omega | (dsimp only;omega) | (have:=Ct (d.tmod 3+3+k);omega)) (by first | omega | (dsimp only;omega) | (have:=Ct (d.tmod 3+3+k);omega)))).comp Ag.l1) rfl rfl) ?_
  refine Pf 5 rfl (BQ rfl) (Pf 6 rfl (AE rfl) (Hf 7 42 rfl rfl rfl (fun q=>AE rfl) (Hf 8 42 rfl rfl rfl (fun q=>Ah Bi rfl) ?_)))
  refine BN 9 rfl rfl (by kernel_rfl) (G6 (t:=42) rfl rfl (fun q=>by have q1:=q;(try simp at q1);exact Ge (AQ Cs (cF rfl q) (cF rfl q) (by first | omega | (dsimp only;omega) | (have:=Ct (d.tmod 3+3+k);omega)) (by first | omega | (dsimp only;omega) | (have:=Ct (d.tmod 3+3+k);omega))))) ?_
  refine Hf 10 42 rfl rfl rfl (fun q=>Ah C2 (cF rfl q)) ?_
  refine BN 11 rfl rfl (by kernel_rfl) (G6 (t:=42) rfl rfl (fun q=>by have q1:=q;(try simp at q1);exact Ge (AG (cF rfl q) A5 .m2 ((AH.l2.comp (AU.arr (n:=6) Ag.fl (by first | omega | (dsimp only;omega) | (have:=Ct (d.tmod 3+3+k);omega)) (by first | omega | (dsimp only;omega) | (have:=Ct (d.tmod 3+3+k);omega)))).comp Ag.l3) rfl rfl))) ?_
  refine Hf 12 42 rfl rfl rfl (fun q=>Ah C2 rfl) (Hf 13 42 rfl rfl rfl (fun q=>AG (cF rfl q) A5 .m0 Ag.l3 rfl rfl) (Hf 14 42 rfl rfl rfl (fun q=>Ce (cF rfl q) (cF rfl q)) ?_))
  refine Pf 15 rfl (BS rfl rfl (fun h=>by rw [h];rfl)) ?_
  refine A4 (by kernel_rfl) ?_
  refine AB (.t8 1 2 4 7 8 10 18 51) ?_
  refine AA ?_
  refine Gc (fun c4=>?_) (fun c4=>?_)
  ·
   have c4p:=kz c4
   refine Gs (Gm rfl (Gt (Ah Bi rfl) ?_))
   refine Gt (AQ Cs rfl rfl (by first | omega | (dsimp only;omega) | (have:=Ct (d.tmod 3+3+k);omega)) (by first | omega | (dsimp only;omega) | (have:=Ct (d.tmod 3+3+k);omega))) ?_
   refine Gt (Ah GD rfl) ?_
   refine AS (AK ((AH.l2.comp (AU.arr (n:=6) Ag.fl (by first | omega | (dsimp only;omega) | (have:=Ct (d.tmod 3+3+k);omega)) (by first | omega | (dsimp only;omega) | (have:=Ct (d.tmod 3+3+k);omega)))).comp Ag.l5) rfl rfl rfl DB rfl (.t (.t .h))) ?_
   refine Gn (.t5 1 2 4 7 18) (Ba (AW (Af (AA (AJ ?_)))))
   refine Gt (Aw rfl rfl (IntWalk.i64_in _ (by first | omega | (dsimp only;omega) | (have:=Ct (d.tmod 3+3+k);omega)))) ?_
   refine Gm rfl ?_
   refine AR (AB (.t5 1 2 4 7 18) ?_)
   refine Bw (k+1) ((s.1.C4 k { s.1.AM.at k with Bz:=0 },s.2)) _ ?_ ?_ (.t5 7 18 1 2 4) (.cons _ (.refl _))
   · have hrs:AF.EG d k s=_:=((AX c3).trans (BB c4))
     have hrg:=AF.FY (draw:=d) hI14 hI15 hI11 (by omega)
     rw [hrs] at hrg
     exact⟨by omega,by omega,by rw [AF.Hx hI11,← hI13,hrs],hrg.1,hrg.2.1,(by have:=hrg.2.2;omega),(by first | assumption | (have hso:(AF.CC s.1 k ((s.1.AM.at k).Bz - 1) (AF.Lg d k)).out.length=1:=rfl;(try dsimp only at *);simp only [List.length_append] at *;omega))⟩
   · omega
  have c4p:=kz c4
  have hsf:=AF.LB (b:=k) (n:=AF.Lg d k) hI14 hI15 (Bz:=((s.1.AM.at k).Bz - 1)) hf0.1 hf0.2 c4p.1
  have hht:=AF.Lr (draw:=d) hI11
  refine Aa ?_
  refine AB (.t7 1 2 4 7 8 10 18) ?_
  refine AA (Gs (Gm rfl ?_))
  refine Gt (Sr rfl rfl (by first | omega | (dsimp only;omega) | (have:=Ct (d.tmod 3+3+k);omega))) ?_
  refine Gt (Aw rfl rfl (IntWalk.i64_in _ (by first | omega | (dsimp only;omega) | (have:=Ct (d.tmod 3+3+k);omega)))) ?_
  refine Gm rfl ?_
  refine Gt (Aw rfl rfl (IntWalk.i64_in _ (by first | omega | (dsimp only;omega) | (have:=Ct (d.tmod 3+3+k);omega)))) ?_
  refine Gt (Sr rfl rfl (by first | omega | (dsimp only;omega) | (have:=Ct (d.tmod 3+3+k);omega))) ?_
  refine Gt (Aw rfl rfl (IntWalk.i64_in _ (by first | omega | (dsimp only;omega) | (have:=Ct (d.tmod 3+3+k);omega)))) ?_
  refine Ga rfl (Gn (.t8 1 2 4 7 8 10 11 18) (Gs (Gt (AY rfl BW .m2 (AU.id AH.fl.len AH.fl.one) rfl) (Gm rfl (Gt (BC UT Tz rfl (.cons Ad.l0 rfl rfl rfl (.cons Ad.l1 rfl rfl rfl .nil))) ?_)))))
  refine B5 rfl rfl rfl (fun b4=>?_)
  refine Ga rfl (Gn (.t8 1 2 4 7 10 11 12 18) (Gs (Gm rfl (Gm rfl (Gm rfl (Gt (BC O9 IU rfl (.cons Ing.Event.l0 rfl rfl rfl (.cons Ing.Event.l3 rfl rfl rfl (.cons Ing.Event.l5 rfl rfl rfl .nil)))) ?_))))))
  refine DU Ing.Event.enc 56 16 ?_
  refine Ai rfl Nx (.c rfl (.c rfl .n)) (.c (.t .h) (.c .h .n)) (CO _ ⟨s.1,k,[]⟩ _ { AF.Fy 14 with other:=((s.1.AM.at k).Bz - 1),n:=AF.Lg d k } rfl (show 0≤k∧k < 6 by omega) (show((s.1.AM.at k).Bz - 1) < 6 by omega) (Nat.zero_le _)) (fun v3 B hv=>?_)
  obtain⟨y4,rfl,y5,rfl⟩:=hv
  refine Gn (.t8 1 2 4 7 10 11 12 18) (Ap ?_)
  refine BE (N:=16) [0,0,0,0,12,28,60,0,252,508,1,1025,3073,8191,16383,32767] mix (by kernel_rfl) rfl ?_
  refine Pf 0 rfl (AE rfl) (Pf 1 rfl (AE rfl) (Pf 2 rfl (AE rfl) (Pf 3 rfl (Ah Bi rfl) ?_)))
  refine Pf 4 rfl (AQ Cs rfl rfl (by first | omega | (dsimp only;omega) | (have:=Ct (d.tmod 3+3+k);omega)) (by first | omega | (dsimp only;omega) | (have:=Ct (d.tmod 3+3+k);omega))) ?_
  refine Pf 5 rfl (Ah Jg rfl) ?_
  refine Pf 6 rfl (AG rfl A5 .m4 ((AH.l2.comp (AU.arr (n:=6) Ag.fl (by first | omega | (dsimp only;omega) | (have:=Ct (d.tmod 3+3+k);omega)) (by first | omega | (dsimp only;omega) | (have:=Ct (d.tmod 3+3+k);omega)))).comp Ag.l4) rfl rfl) ?_
  refine Pf 7 rfl (AE rfl) ?_
  refine Pf 8 rfl (FR rfl rfl (IntWalk.i64_in _ (by first | omega | (dsimp only;omega) | (have:=Ct (d.tmod 3+3+k);omega)))) ?_
  refine Pf 9 rfl (Li rfl rfl) (Pf 10 rfl (BV rfl) (Pf 11 rfl (Ah A9 rfl) (Pf 12 rfl (Ah Bi rfl) ?_)))
  refine Pf 13 rfl (AQ Cs rfl rfl (by first | omega | (dsimp only;omega) | (have:=Ct (d.tmod 3+3+k);omega)) (by first | omega | (dsimp only;omega) | (have:=Ct (d.tmod 3+3+k);omega))) ?_
  refine Pf 14 rfl (Ah Jg rfl) ?_
  refine An 15 rfl (by kernel_rfl) ?_
  refine AS (AK (((Ad.l0.comp AH.l2).comp (AU.arr (n:=6) Ag.fl (by first | omega | (dsimp only;omega) | (have:=Ct (d.tmod 3+3+k);omega)) (by first | omega | (dsimp only;omega) | (have:=Ct (d.tmod 3+3+k);omega)))).comp Ag.l4) rfl rfl rfl DB rfl .h) ?_
  refine BO rfl ⟨?_,?_⟩
  · exact(Pk (Pk (Pk (Pk (Pk (Pk (Pk (Pk (Pk (Pk (Pk (Pk (Pk (Pk (Pk Ar)))))))))))))))
  refine A4 (by kernel_rfl) ?_
  refine AB (.t7 1 2 4 7 10 12 18) ?_
  refine AA (Ap ?_)
  have hl1:y4.len=1:=y5
  refine AJ (Gm rfl (Gm rfl (Gt (BV rfl) (Gt (Ah CK rfl) (Gt (AG rfl Dl .m0 Ad.l2 rfl rfl) ?_)))))
  refine Cd Ing.Event.fl rfl Tryz.underlying53 Nl IU rfl WD (by decide) (by decide) rfl rfl (fun w hS=>Src.Dz Tryz.underlying53 ((Kn.own .m1) w hS)) (by(try dsimp only at *);omega) (fun _=>(.t (.t (.t .h)))) (fun h6 h6l h6z=>?_)
  refine Ga rfl (Gn (.t7 1 2 4 7 10 12 18) (Gs (Gm rfl (Gt (BV rfl) (Gt (Ah A9 rfl) (Gt (AY rfl BW .m0 Ad.l0 rfl) ?_))))))
  refine AS (AK (AU.id AH.fl.len AH.fl.one) rfl rfl rfl D3 rfl (.t (.t (.t (.t .h))))) ?_
  refine Gn (.t6 1 2 4 7 10 18) (Gs (Gm rfl (Gt (Ah Bi rfl) ?_)))
  refine Gt (AQ Cs rfl rfl (by first | omega | (dsimp only;omega) | (have:=Ct (d.tmod 3+3+k);omega)) (by first | omega | (dsimp only;omega) | (have:=Ct (d.tmod 3+3+k);omega))) ?_
  refine Gt (Ah Jg rfl) ?_
  refine Gt (AG rfl A5 .m4 ((AH.l2.comp (AU.arr (n:=6) Ag.fl (by first | omega | (dsimp only;omega) | (have:=Ct (d.tmod 3+3+k);omega)) (by first | omega | (dsimp only;omega) | (have:=Ct (d.tmod 3+3+k);omega)))).comp Ag.l4) rfl rfl) ?_
  refine Gt (Aj rfl rfl) (Gn (.t7 1 2 4 7 10 18 102) ?_)
  refine Gc (fun c5=>?_) (fun c5=>?_)
  ·
   have c5p:=kz c5
   refine Gs (Ga rfl (Gn (.t6 1 2 4 7 10 18) (Gs (Gt (AY rfl BW .m4 (AU.id AH.fl.len AH.fl.one) rfl) (Gm rfl ?_)))))
   refine BF rfl db (.c rfl (.c rfl .n)) .n (Nj (AF.CC s.1 k ((s.1.AM.at k).Bz - 1) (AF.Lg d k)).w ((s.1.AM.at k).Bz - 1) hsf) (fun w hS=>gl0.pull gm0 hS .n) (fun v7 B hv=>?_)
   obtain⟨y8,rfl,y9,rfl⟩:=hv
   refine Gm rfl (Gt (AN rfl rfl) (Gt (AN rfl rfl) ?_))
   refine AS (AK (AU.id AH.fl.len AH.fl.one) rfl rfl rfl D3 rfl (.t (.t (.t (.t (.t .h)))))) ?_
   refine Ga rfl (Gn (.t6 1 2 4 7 13 18) ?_)
   have hl2:y8.len≤12:=by rw [y9];exact(AF.Pp hsf).2.2
   refine AJ (Gm rfl (Gm rfl ?_))
   refine Cd Ing.Event.fl rfl Tryz.underlying53 Nl IU rfl WD (by decide) (by decide) rfl rfl (fun w hS=>Src.Dz Tryz.underlying53 ((Kn.own .m0) w hS)) (by(try dsimp only at *);omega) (fun _=>(.t (.t (.t (.t .h))))) (fun h11 h11l h11z=>?_)
   refine Ga rfl ?_
   refine AR (AB (.t5 1 2 4 7 18) ?_)
   refine AV (AA (AJ ?_))
   refine Gt (Aw rfl rfl (IntWalk.i64_in _ (by first | omega | (dsimp only;omega) | (have:=Ct (d.tmod 3+3+k);omega)))) ?_
   refine Gm rfl ?_
   refine AR (AB (.t5 1 2 4 7 18) ?_)
   refine Bw (k+1) (((AF.Hi (AF.CC s.1 k ((s.1.AM.at k).Bz - 1) (AF.Lg d k)).w ((s.1.AM.at k).Bz - 1)).w,(s.2++(AF.CC s.1 k ((s.1.AM.at k).Bz - 1) (AF.Lg d k)).out)++(AF.Hi (AF.CC s.1 k ((s.1.AM.at k).Bz - 1) (AF.Lg d k)).w ((s.1.AM.at k).Bz - 1)).out)) _ ?_ ?_ (.t5 7 18 1 2 4) (.cons _ (.cons _ (.cons _ (.cons _ (.refl _)))))
   · have hrs:AF.EG d k s=_:=((AX c3).trans ((AX c4).trans (BB c5)))
     have hrg:=AF.FY (draw:=d) hI14 hI15 hI11 (by omega)
     rw [hrs] at hrg
     exact⟨by omega,by omega,by rw [AF.Hx hI11,← hI13,hrs],hrg.1,hrg.2.1,(by have:=hrg.2.2;omega),(by first | assumption | (have hso:(AF.CC s.1 k ((s.1.AM.at k).Bz - 1) (AF.Lg d k)).out.length=1:=rfl;(try dsimp only at *);simp only [List.length_append] at *;omega))⟩
   · omega
  have c5p:=kz c5
  refine Aa ?_
  refine AB (.t5 1 2 4 7 18) ?_
  refine AV (AA (AJ ?_))
  refine Gt (Aw rfl rfl (IntWalk.i64_in _ (by first | omega | (dsimp only;omega) | (have:=Ct (d.tmod 3+3+k);omega)))) ?_
  refine Gm rfl ?_
  refine AR (AB (.t5 1 2 4 7 18) ?_)
  refine Bw (k+1) (((AF.CC s.1 k ((s.1.AM.at k).Bz - 1) (AF.Lg d k)).w,s.2++(AF.CC s.1 k ((s.1.AM.at k).Bz - 1) (AF.Lg d k)).out)) _ ?_ ?_ (.t5 7 18 1 2 4) (.cons _ (.cons _ (.cons _ (.refl _))))
  · have hrs:AF.EG d k s=_:=((AX c3).trans ((AX c4).trans (AX c5)))
    have hrg:=AF.FY (draw:=d) hI14 hI15 hI11 (by omega)
    rw [hrs] at hrg
    exact⟨by omega,by omega,by rw [AF.Hx hI11,← hI13,hrs],hrg.1,hrg.2.1,(by have:=hrg.2.2;omega),(by first | assumption | (have hso:(AF.CC s.1 k ((s.1.AM.at k).Bz - 1) (AF.Lg d k)).out.length=1:=rfl;(try dsimp only at *);simp only [List.length_append] at *;omega))⟩
  · omega
 have c2p:=kz c2
 obtain rfl:k=6:=by omega
 refine Ba (AW (AW (Af ?_)))
 refine AB (.t3 2 4 7) ?_
 refine AA (Gs (Gt (AY rfl BW .m1 (AU.id AH.fl.len AH.fl.one) rfl) (Gm rfl ?_)))
 refine AS (AK (AU.id AH.fl.len AH.fl.one) rfl rfl rfl D3 rfl (.t (.t .h))) ?_
 refine Ga rfl (Ga rfl (Gn (.t3 4 5 6) (Ab ?_)))
 refine AZ rfl (.cell rfl .m2 (.inl ⟨(by rw [AH.fl.len];exact BW),rfl⟩) (.tmp rfl (.tmp rfl .n))) ?_
 intro w1 hS
 have hS:=(hS.perm (Ax.perm (.c .h .n))).A1
 have hq:AF.CV X d=((AF.DW X d 6).1,(AF.DW X d 6).2,0):=AX c1
 have hs6:s=AF.DW X d 6:=hI13
 rw [← hs6] at hq
 refine⟨_,⟨h,?hv,?hl,?hB⟩,hS⟩
 case hv=>rw [hq];(try rfl)
 case hl=>rw [hq];exact hI17
 case hB=>rw [hq];(try rfl)
theorem ES (p:As)(s:Aq)(hs:s.length≤9000000000000000000)(w:World):Eh Tryz.prog 62 #[.agg p.enc.toArray,BU s] w fun v w'=>v = .tuple #[.agg (As.enc ⟨p.wait,(Page.send p s).1.shown,(Page.send p s).1.B6,(Page.send p s).1.ring,(Page.send p s).1.cut⟩).toArray, .int .i64 (Page.send p s).2]∧CA w w':=by
 refine Ak [] [] Tryz.func62 rfl rfl rfl (St.start w []) ?_
 refine Gs ?_
 refine B5 rfl rfl rfl (fun b1=>?_)
 refine BD rfl Tl rfl (fun b2=>?_)
 refine Ga rfl (Gn (.t3 1 2 4) (Ap (Ae (Gs (Gt (AY rfl Cr .m1 (AU.id As.fl.len As.fl.one) rfl) ?_)))))
 refine BA rfl Yw (.c rfl .n) (fun w hS=>FF _ w) ?_
 refine Gt (BQ rfl) (Ga rfl (Gn (.t4 1 2 4 6) ?_))
 refine Gc (fun c1=>?_) (fun c1=>?_)
 ·
  refine Gs (Gt (AY rfl Cr .m1 (AU.id As.fl.len As.fl.one) rfl) ?_)
  refine AS (AK (AU.id As.fl.len As.fl.one) rfl rfl rfl FO rfl .h) ?_
  refine Ga rfl (Gn (.t2 4 5) (Ab (AT (AD ?_))))
  refine AZ rfl (.cell rfl .m0 (.inl ⟨(by rw [As.fl.len];exact Cr),rfl⟩) (.tmp rfl .n)) ?_
  intro w1 hS;refine⟨?_,hS.Am⟩;simp only [Page.send,Page.put,Page.of,c1,↓reduceIte,Bool.false_eq_true];rfl
 have c1p:=kz c1
 have hg:=(Page.GX p).1 (by simpa using c1)
 refine Gs (Gt (Ah Kr rfl) (Gt (AG rfl DN .m1 As.l4 rfl rfl) (Ga rfl (Gn (.t4 1 2 4 11) ?_))))
 refine Gc (fun c2=>?_) (fun c2=>?_)
 ·
  refine Gs (Gt (AY rfl Cr .m1 (AU.id As.fl.len As.fl.one) rfl) ?_)
  refine AS (AK (AU.id As.fl.len As.fl.one) rfl rfl rfl FO rfl .h) ?_
  refine Ga rfl (Gn (.t2 4 5) (Ab (AT (AD ?_))))
  refine AZ rfl (.cell rfl .m0 (.inl ⟨(by rw [As.fl.len];exact Cr),rfl⟩) (.tmp rfl .n)) ?_
  intro w1 hS;refine⟨?_,hS.Am⟩;rw [show Page.send p s=(Page.of p,6) from by simp only [Page.send,c1,c2,↓reduceIte,Bool.false_eq_true]];rfl
 have c2p:=kz c2
 refine Gs (Gm rfl (Gt (BH rfl Tryz.underlying9 rfl) (Gt (Ah Js rfl) (Gt (AG rfl CP .m1 As.l3 rfl rfl) (Gt (BH rfl Tryz.underlying9 rfl) ?_)))))
 refine Gt (FR rfl rfl (IntWalk.i64_in _ (by first | omega | (simp at *;omega)))) ?_
 refine Gt (Ck rfl rfl) (Ga rfl (Gn (.t4 1 2 4 15) ?_))
 refine Gc (fun c3=>?_) (fun c3=>?_)
 ·
  refine Gs (Gt (Ah Kr rfl) ?_)
  refine AS (AK As.l4 rfl rfl rfl J8 rfl (.t .h)) ?_
  refine Gn (.t2 2 4) (Gs (Gt (AY rfl Cr .m1 (AU.id As.fl.len As.fl.one) rfl) ?_))
  refine AS (AK (AU.id As.fl.len As.fl.one) rfl rfl rfl FO rfl .h) ?_
  refine Ga rfl (Gn (.t2 4 5) (Ab (AT (AD ?_))))
  refine AZ rfl (.cell rfl .m0 (.inl ⟨(by rw [As.fl.len];exact Cr),rfl⟩) (.tmp rfl .n)) ?_
  intro w1 hS;refine⟨?_,hS.Am⟩;simp only [Page.send,Page.put,Page.of,c1,c2,c3,↓reduceIte,Bool.false_eq_true];rfl
 have c3p:=kz c3
 refine Aa ?_
 refine AB (.t3 1 2 4) ?_
 refine AV (AA (Gs (Gt (Ah Js rfl) (Gt (AG rfl CP .m1 As.l3 rfl rfl) (Gm rfl ?_)))))
 refine Gt (CU rfl rfl (by first | omega | (simp at *;omega))) ?_
 refine Gt (Ah Js rfl) ?_
 refine AS (AK As.l3 rfl rfl rfl Em rfl (.t .h)) ?_
 refine Gn (.t2 2 4) (Gs (Gt (AY rfl Cr .m1 (AU.id As.fl.len As.fl.one) rfl) ?_))
 refine AS (AK (AU.id As.fl.len As.fl.one) rfl rfl rfl FO rfl .h) ?_
 refine Ga rfl (Gn (.t2 4 5) (Ab ?_))
 refine AZ rfl (.cell rfl .m0 (.inl ⟨(by rw [As.fl.len];exact Cr),rfl⟩) (.tmp rfl .n)) ?_
 intro w1 hS;refine⟨?_,hS.Am⟩;simp only [Page.send,Page.put,Page.of,c1,c2,c3,↓reduceIte,Bool.false_eq_true];rfl
theorem Hk (b:Nat)(m:Int)(h0:0 < m)(h1:m≤281474976710656):JO Tryz.prog 186 #[.pointer (some ⟨b,0,none⟩), .int .i64 m] [Ac.box b 107 (DX.enc ⟨some ⟨b,0,none⟩,⟨none,0,0⟩⟩)] (fun v B=>∃ h',v = .tuple #[]∧h'.Z∧h'.len=0∧B = [Ac.box b 107 (DX.enc ⟨some ⟨b,0,none⟩,h'⟩),Ac.own h' 5 1 (([]:Aq).flatMap DR)]):=by
 intro w hS0
 refine Ak _ _ Tryz.func186 rfl rfl rfl (hS0) ?_
 refine Ap ?_
 refine BE (N:=16) [0,1,3,7,15,31,0,127,255,0,512,1536,3584,7680,16383,32767] mix (by kernel_rfl) rfl ?_
 refine Pf 0 rfl (AE rfl) (Pf 1 rfl (BV rfl) (Pf 2 rfl (Ah Eu rfl) (Pf 3 rfl (AG rfl IJ .m0 DX.l1 rfl rfl) (Pf 4 rfl (Lq rfl Tryz.underlying105 rfl) ?_))))
 refine Pf 5 rfl (W7 rfl rfl (IntWalk.i64_in _ (by first | omega | (dsimp only;omega)))) ?_
 refine Pf 6 rfl (AE rfl) ?_
 refine Pf 7 rfl (Aw rfl rfl (IntWalk.i64_in _ (by first | omega | (dsimp only;omega)))) ?_
 refine Pf 9 rfl (AE rfl) (Pf 10 rfl (BV rfl) (Pf 11 rfl (Ah Eu rfl) (Pf 12 rfl (AG rfl IJ .m0 DX.l1 rfl rfl) (Pf 13 rfl (Av rfl Tryz.underlying105 rfl) ?_))))
 refine An 8 rfl (by kernel_rfl) ?_
 refine SU (ps:=#[3]) rfl Tryz.func193 (by kernel_rfl) (by kernel_rfl) (by kernel_rfl) (by kernel_rfl) Tryz.underlying105 Vt rfl (by first | omega | (dsimp only;omega)) (by first | omega | (dsimp only;omega)) (fun b1 b1c b1x b1l b1k=>?_)
 refine Bp rfl ⟨?_,?_⟩
 · exact(Po rfl (Av rfl Tryz.underlying105 rfl) rfl rfl (Po rfl (AG rfl IJ .m1 DX.l1 rfl rfl) rfl rfl (Po rfl (Ah Eu rfl) rfl rfl (Po rfl (BV rfl) rfl rfl (Po rfl (AE rfl) rfl rfl (Pk (Pk (Pk (Pk (Pk (Pk (Pk (Pk Ar)))))))))))))
 refine An 14 rfl (by kernel_rfl) ?_
 refine KQ WA rfl Tryz.underlying105 Vt rfl rfl (by first | omega | (dsimp only;omega)) (by first | omega | (dsimp only;omega)) (fun _=> .h) ?_
 refine Bp rfl ⟨?_,?_⟩
 · exact(Pk (Pk (Pk (Pk (Pk (Pk (Pk (Pk (Pk (Pk (Pk (Pk (Pk Ar)))))))))))))
 refine Pf 15 rfl (A0 rfl) ?_
 refine A4 (by kernel_rfl) ?_
 refine AB (.t2 0 4) ?_
 refine AA (Gs (Gm rfl (Gm rfl (Gt (BV rfl) (Gt (Ah Eu rfl) (Gt (AG rfl IJ .m1 DX.l1 rfl rfl) (Gt (Wn rfl Tryz.underlying105 Vt rfl rfl) ?_)))))))
 refine Gn (.t2 0 4) (AJ (Gm rfl (Gm rfl (Gt (BV rfl) (Gt (Ah Eu rfl) ?_)))))
 refine AS (AK DX.l1 rfl rfl rfl UY rfl (.t .h)) ?_
 refine AR ?_
 refine Bk rfl .n ?_
 intro w1 hS
 have hS:=(hS.perm (Ax.perm (.c (.t .h) (.c .h .n)))).A1
 exact⟨_,⟨_,rfl,⟨by intro a h;cases h;rfl,fun _=>by dsimp only at b1k ⊢;omega⟩,rfl,rfl⟩,hS⟩
theorem Hh (b:Nat)(m:Int)(h0:0≤m)(h1:m≤281474976710656):JO Tryz.prog 175 #[.pointer (some ⟨b,0,none⟩), .int .i64 m] [Ac.box b 107 (DX.enc ⟨none,⟨none,0,0⟩⟩)] (fun v B=>∃ h',v = .tuple #[]∧h'.Z∧h'.len=0∧B = [Ac.box b 107 (DX.enc ⟨some ⟨b,0,none⟩,h'⟩),Ac.own h' 5 1 (([]:Aq).flatMap DR)]):=by
 intro w hS0
 refine Ak _ _ Tryz.func175 rfl rfl rfl (hS0) ?_
 refine Gs (Gm rfl ?_)
 refine Ai rfl Z7 (.c rfl .n) (.c .h .n) (C9 _ _ _ (.inl rfl)) (fun v1 B hv=>?_)
 obtain⟨rfl,rfl⟩:=hv
 refine Gn (.t2 0 1) (CB (Gm rfl (Gt (A8 rfl rfl) (Gn (.t3 0 1 7) ?_))))
 refine DD rfl (by simp;omega) ?_
 refine Aa ?_
 refine AB (.t2 0 1) ?_
 refine AA (Ap ?_)
 refine BE (N:=13) [0,1,3,7,15,0,32,96,224,480,1023,0,4095] mix (by kernel_rfl) rfl ?_
 refine Pf 0 rfl (AE rfl) (Pf 1 rfl (BV rfl) (Pf 2 rfl (Ah Eu rfl) (Pf 3 rfl (AG rfl IJ .m0 DX.l1 rfl rfl) (Pf 4 rfl (Lq rfl Tryz.underlying105 rfl) (Pf 5 rfl (AE rfl) (Pf 6 rfl (BV rfl) (Pf 7 rfl (Ah Eu rfl) ?_)))))))
 refine Pf 8 rfl (AG rfl IJ .m0 DX.l1 rfl rfl) (Pf 9 rfl (Av rfl Tryz.underlying105 rfl) ?_)
 refine Pf 10 rfl (FR rfl rfl (IntWalk.i64_in _ (by first | omega | (dsimp only;omega)))) ?_
 refine Pf 11 rfl (AE rfl) (Pf 12 rfl (A8 rfl rfl) ?_)
 refine A4 (by kernel_rfl) ?_
 refine AB (.t3 0 1 21) ?_
 refine AA ?_
 refine Gc (fun c1=>?_) (fun c1=>?_)
 ·
  have c1p:=kz c1
  refine AJ (Gm rfl (Gm rfl ?_))
  refine Ai rfl bB (.c rfl (.c rfl .n)) (.c .h .n) (Hk _ _ (by dsimp only at *;omega) h1) (fun v2 B hv=>?_)
  obtain⟨y3,rfl,y4,y5,rfl⟩:=hv
  refine AR ?_
  refine Bk rfl .n ?_
  intro w1 hS
  have hS:=(hS.perm (Ax.perm (.c .h (.c .h .n)))).A1
  exact⟨_,⟨_,rfl,by assumption,by assumption,rfl⟩,hS⟩
 refine Aa ?_
 refine Bk rfl .n ?_
 intro w1 hS
 have hS:=hS.Co 5 1
 have hS:=(hS.perm (Ax.perm (.c (.t .h) (.c .h .n)))).A1
 exact⟨_,⟨_,rfl,Hd.Ue,rfl,rfl⟩,hS⟩
theorem Jl (s:Aq)(hs:s.length≤70368744000000)(w:World):Eh Tryz.prog 158 #[BU s,BU [255],BU [255,255], .int .i64 (-1)] w fun v w'=>v=BU (Page.escape s)∧CA w w':=by
 have hcl:=List.count_le_length (a:=(255:UInt8)) (l:=s)
 refine Ak [] [] Tryz.func158 rfl rfl rfl (St.start w []) ?_
 refine Gs (Ga rfl (Gn (.t4 0 1 2 3) (CB (Gm rfl (Gm rfl (Gt (Bt rfl rfl) (Gm rfl ?_)))))))
 refine BZ 19 rfl rfl (fun q=>AE rfl) (BZ 19 rfl rfl (fun q=>Aj (cF rfl q) rfl) ?_)
 refine Gt (BS rfl rfl (fun h=>by rw [h];rfl)) ?_
 refine Gn (.t5 0 1 2 3 22) ?_
 refine DD rfl (by simp) ?_
 refine Aa ?_
 refine AB (.t4 0 1 2 3) ?_
 refine AA (CB (Gm rfl (Gm rfl ?_)))
 refine BA rfl ZL (.c rfl (.c rfl .n)) (fun w hS=>HP _ 255 w) ?_
 refine Ga rfl (Gn (.t5 0 1 2 3 9) (Gs (Gm rfl (Gt (Aj rfl rfl) (Gn (.t6 0 1 2 3 9 28) ?_)))))
 refine Gc (fun c1=>?_) (fun c1=>?_)
 ·
  have c1p:=kz c1
  refine Gs (Gm rfl (Ga rfl (Gn (.t1 8) (Ab (AD ?_)))))
  refine AZ rfl (.tmp rfl .n) ?_
  intro w1 hS;refine⟨?_,hS.Am⟩;have e:s.count 255=0:=by simp at c1;omega
  rw [Page.Mj _ e];rfl
 have c1p:=kz c1
 refine Gs (Gm rfl (Gt (A8 rfl rfl) (Gm rfl (BZ 32 rfl rfl (fun q=>AE rfl) (BZ 32 rfl rfl (fun q=>AE rfl) (BZ 32 rfl rfl (fun q=>A8 (cF rfl q) (cF rfl q)) ?_))))))
 refine Gt (BS rfl rfl (fun h=>by rw [h];rfl)) ?_
 refine Gn (.t6 0 1 2 3 9 36) ?_
 refine G4 rfl rfl ?_
 refine AJ (Gm rfl (Ga rfl (Gn (.t4 0 1 2 3) (Gs ?_))))
 refine BD rfl UQ rfl (fun b1=>?_)
 refine DU DR 5 1 ?_
 refine AR (AA (Gs (Gm rfl (Gt (BH rfl Tryz.underlying9 rfl) (Gm rfl (Gm rfl (Gt (BH rfl Tryz.underlying9 rfl) ?_)))))))
 refine Gm rfl (Gt (BH rfl Tryz.underlying9 rfl) ?_)
 refine Gt (FR rfl rfl (IntWalk.i64_in _ (by(try simp only [List.length_cons,List.length_nil]);omega))) ?_
 refine Gt (W7 rfl rfl (IntWalk.i64_in _ (by(try simp only [List.length_cons,List.length_nil]);omega))) ?_
 refine Gt (Aw rfl rfl (IntWalk.i64_in _ (by(try simp only [List.length_cons,List.length_nil]);omega))) ?_
 refine Ai rfl bL (.c rfl (.c rfl .n)) (.c (.t .h) .n) (Hh _ _ (by simp only [List.length_cons,List.length_nil];omega) (by simp only [List.length_cons,List.length_nil];omega)) (fun v1 B hv=>?_)
 obtain⟨y2,rfl,y3,y4,rfl⟩:=hv
 refine Gn (.t5 0 1 2 3 10) (Gs (Ga rfl (AR (AA (CB (Gm rfl (Gt (BH rfl Tryz.underlying9 rfl) ?_)))))))
 refine Gt (Ck rfl rfl) (Gn (.t7 0 1 2 3 10 11 51) ?_)
 refine G4 rfl (by simp) ?_
 refine Gs (Gm rfl (Gm rfl (Gn (.t7 0 1 2 10 11 52 53) (Ae ?_))))
 refine Bo (.t7 11 53 0 1 2 10 52) ?_
 refine Bh (.t .h) ?_
 refine Bh (.t .h) ?_
 refine Re (fun(k:Int) (start:Int) (x:Aq) (p:Option Addr) (h:Hd)=>Page.Qh s (s.count 255) k start x∧(p=none∨p=some ⟨b1,0,none⟩)∧h.Z∧h.len=x.length) (fun(k:Int) (start:Int) (x:Aq) (p:Option Addr) (h:Hd)=>((s.count 255:Int) - k).toNat) (fun(k:Int) (start:Int) (x:Aq) (p:Option Addr) (h:Hd)=> [(11, .int .i64 start),(53, .int .i64 k)]) (fun(k:Int) (start:Int) (x:Aq) (p:Option Addr) (h:Hd)=> [Ac.box b1 107 (DX.enc ⟨p,h⟩),Ac.own h 5 1 (x.flatMap DR)]) (0) (0) ([]) (_) (_) ?_ rfl rfl (fun k start x p h hI1=>?_)
 · exact⟨Page.Qh.start rfl, .inr rfl,by assumption,by assumption⟩
 obtain⟨hI11,hp,hz,hl⟩:=hI1;have hk0:=hI11.k0;have hs0:=hI11.s0;have hs1:=hI11.s1;have hxl:=hI11.xl
 refine Gs (Gt (A8 rfl rfl) (AR (AA (Ap ?_))))
 refine Gc (fun c2=>?_) (fun c2=>?_)
 ·
  have c2p:=kz c2
  obtain⟨i,hi,hlt,hR⟩:=hI11.idx (by omega)
  rw [← hi] at hR hlt
  refine Aa ?_
  refine AB (.t7 0 1 2 10 11 52 53) ?_
  refine AA (Ap (Ae (Gs (Gm rfl (Gm rfl (Gm rfl ?_))))))
  refine Gt (Gg Tryz.underlying9 rfl rfl (by(try simp only [List.length_cons,List.length_nil]);omega) (by(try simp only [List.length_cons,List.length_nil]);omega)) ?_
  refine Gm rfl ?_
  refine BA rfl W4 (.c rfl (.c rfl .n)) (fun w hS=>FH _ 255 w) ?_
  refine Gt (Aw rfl rfl (IntWalk.i64_in _ (by(try simp only [List.length_cons,List.length_nil]);omega))) ?_
  refine Ga rfl (Gn (.t8 0 1 2 10 11 12 52 53) (Gs (Gm rfl (Gm rfl (Gm rfl ?_)))))
  refine Gt (Yv Tryz.underlying9 rfl rfl rfl (by(try simp only [List.length_cons,List.length_nil]);omega) (by(try simp only [List.length_cons,List.length_nil]);omega) (by(try simp only [List.length_cons,List.length_nil]);omega)) ?_
  refine Ai rfl PO (.c rfl (.c rfl .n)) (.c .h (.c .h .n)) (BM _ _ _ _ (by assumption) (by assumption) (by assumption) _ (by(try simp only [List.length_drop,List.length_take,List.length_append,List.length_cons,List.length_nil]);omega)) (fun v6 B hv=>?_)
  obtain⟨y7,y8,rfl,y9,y10,y11,rfl⟩:=hv
  refine Gn (.t7 0 1 2 10 12 52 53) (Gs (Gm rfl ?_))
  refine Ai rfl PO (.c rfl (.c rfl .n)) (.c .h (.c .h .n)) (BM _ _ _ _ (by assumption) (by assumption) (by assumption) _ (by(try simp only [List.length_drop,List.length_take,List.length_append,List.length_cons,List.length_nil]);omega)) (fun v12 B hv=>?_)
  obtain⟨y13,y14,rfl,y15,y16,y17,rfl⟩:=hv
  refine Gn (.t7 0 1 2 10 12 52 53) (AJ (Gm rfl (Gm rfl (Gt (BH rfl Tryz.underlying9 rfl) ?_))))
  refine Gt (Aw rfl rfl (IntWalk.i64_in _ (by(try simp only [List.length_cons,List.length_nil]);omega))) ?_
  refine Ga rfl ?_
  refine AR (AB (.t7 0 1 2 10 11 52 53) ?_)
  refine AV (AA (AJ ?_))
  refine Gt (Aw rfl rfl (IntWalk.i64_in _ (by(try simp only [List.length_cons,List.length_nil]);omega))) ?_
  refine Gm rfl ?_
  refine AR (AB (.t7 0 1 2 10 11 52 53) ?_)
  refine KI (k+1) _ _ _ _ ?_ ?_ (.t7 11 53 0 1 2 10 52) (.refl _)
  · exact⟨hR,by assumption,by assumption,by assumption⟩
  · omega
 have c2p:=kz c2
 refine Ba (AW (AW (Af ?_)))
 refine AB (.t3 0 10 11) ?_
 refine AA (Gs (Gm rfl (Gm rfl ?_)))
 refine Gt (Gg Tryz.underlying9 rfl rfl (by(try simp only [List.length_cons,List.length_nil]);omega) (by(try simp only [List.length_cons,List.length_nil]);omega)) ?_
 refine Ai rfl PO (.c rfl (.c rfl .n)) (.c .h (.c .h .n)) (BM _ _ _ _ (by assumption) (by assumption) (by assumption) _ (by(try simp only [List.length_drop,List.length_take,List.length_append,List.length_cons,List.length_nil]);omega)) (fun v18 B hv=>?_)
 obtain⟨y19,y20,rfl,y21,y22,y23,rfl⟩:=hv
 refine Gn (.t1 10) (Gs ?_)
 refine Ai rfl YF (.c rfl .n) (.c .h (.c .h .n)) (Cv _ _ _ _ (by assumption) (by assumption) (by(try simp only [List.length_append,List.length_drop]);omega)) (fun v24 B hv=>?_)
 obtain⟨rfl,rfl⟩:=hv
 refine Ga rfl (Gn (.t1 8) (Ab ?_))
 refine AZ rfl (.tmp rfl .n) ?_
 intro w1 hS;refine⟨?_,hS.Am⟩;rw [← hI11.done (by omega)];rfl
theorem Ib (s:Aq)(hs:s.length≤70368744000000)(w:World):Eh Tryz.prog 126 #[BU s,BU [255],BU [255,255]] w fun v w'=>v=BU (Page.escape s)∧CA w w':=by
 refine Ak [] [] Tryz.func126 rfl rfl rfl (St.start w []) ?_
 refine Gs (Ga rfl (Gn (.t3 0 1 2) (Gs (Gm rfl (Gm rfl (Gm rfl ?_))))))
 refine BA rfl bd (.c rfl (.c rfl (.c rfl (.c rfl .n)))) (fun w hS=>Jl _ (by first | assumption | omega) w) ?_
 refine Ga rfl (Gn (.t1 6) (Ab ?_))
 refine AZ rfl (.tmp rfl .n) ?_
 intro w1 hS;refine⟨?_,hS.Am⟩;rfl
theorem K8 (s:Aq)(hs:s.length≤70368744000000)(w:World):Eh Tryz.prog 98 #[BU s] w fun v w'=>v=BU (Page.escape s)∧CA w w':=by
 refine Ak [] [] Tryz.func98 rfl rfl rfl (St.start w []) ?_
 refine Gs (Ga rfl (Gn (.t1 0) (Gs (Gm rfl ?_))))
 refine BA rfl aZ (.c rfl (.c rfl (.c rfl .n))) (fun w hS=>Ib _ (by first | assumption | omega) w) ?_
 refine Ga rfl (Gn (.t1 2) (Ab ?_))
 refine AZ rfl (.tmp rfl .n) ?_
 intro w1 hS;refine⟨?_,hS.Am⟩;rfl
theorem Mu {t0:Nat}(p:As)(qs:List Aq)(top:Int)(hs:∀ s∈qs,s.length≤70368744000000):FK Tryz.prog 83 #[.agg p.enc.toArray, .int .i64 top] [] (fun w=>Rd w p.wait t0 1 (qs.flatMap A7)∧p.wait.len≤p.wait.cap) (fun v B=>((!Page.Bb p || decide (top < 0) || decide (200 < top))=true∧v = .tuple #[.agg p.enc.toArray, .int .i64 2]∧B = [])∨((!Page.Bb p || decide (top < 0) || decide (200 < top))=false∧∃(T:Nat) (h' g:Hd) (zs:List Aq),v = .tuple #[.agg (As.enc ⟨h',(Page.Be top qs (Page.of p)).1.shown,(Page.Be top qs (Page.of p)).1.B6,(Page.Be top qs (Page.of p)).1.ring,(Page.Be top qs (Page.of p)).1.cut⟩).toArray, .int .i64 0]∧h'.len=(Page.Be top qs (Page.of p)).2.length∧aO T h' (Page.Be top qs (Page.of p)).2 t0 p.wait qs 9 g zs∧B = [Ac.own g 9 1 (zs.flatMap A7)])):=by
 intro w hS0 hH
 obtain⟨r0,k0⟩:=hH
 have hl0:=r0.Mw DZ (by decide)
 refine Ak _ _ Tryz.func83 rfl rfl rfl (hS0) ?_
 refine Gs ?_
 refine B5 rfl rfl rfl (fun b1=>?_)
 refine BD rfl Tl rfl (fun b2=>?_)
 refine Ga rfl (Gn (.t3 1 2 4) (CB (Gt (AY rfl Cr .m1 (AU.id As.fl.len As.fl.one) rfl) ?_)))
 refine BA rfl Yw (.c rfl .n) (fun w hS=>FF _ w) ?_
 refine Gt (BQ rfl) (Gm rfl (BZ 10 rfl rfl (fun q=>AE rfl) (BZ 10 rfl rfl (fun q=>A8 (cF rfl q) rfl) ?_)))
 refine Gt (BS rfl rfl (fun h=>by rw [h];rfl)) ?_
 refine Gm rfl (BZ 14 rfl rfl (fun q=>AE rfl) (BZ 14 rfl rfl (fun q=>Ck (cF rfl q) rfl) ?_))
 refine Gt (BS rfl rfl (fun h=>by rw [h];rfl)) ?_
 refine Gn (.t4 1 2 4 17) ?_
 refine Gc (fun c1=>?_) (fun c1=>?_)
 ·
  refine Gs (Gt (AY rfl Cr .m1 (AU.id As.fl.len As.fl.one) rfl) ?_)
  refine AS (AK (AU.id As.fl.len As.fl.one) rfl rfl rfl FO rfl .h) ?_
  refine Ga rfl (Gn (.t2 4 5) (Ab (AD ?_)))
  refine AZ rfl (.cell rfl .m0 (.inl ⟨(by rw [As.fl.len];exact Cr),rfl⟩) (.tmp rfl .n)) ?_
  intro w1 hS
  have hS:=(hS.perm (Ax.perm .n)).A1
  exact⟨_, .inl ⟨c1,rfl,rfl⟩,hS⟩
 have c1p:=kz c1
 have hgd:Page.Bb p=true∧0≤top∧top≤200:=by simp at c1;exact⟨c1.1.1,by omega,by omega⟩
 refine Aa ?_
 refine AB (.t3 1 2 4) ?_
 refine AA (Ap (Ae ?_))
 refine Bo (.t3 1 2 4) ?_
 refine E0 A7 9 1 ?_
 refine Bh (.t (.t .h)) ?_
 refine Bh (.t .h) ?_
 refine WK (fun(rest:List Aq) (sh:Int) (ak:Bool) (ring:Aq) (ct:Bool) (T:Nat) (hx:Hd) (g:Hd) (zs:List Aq)=>Page.FI top qs (Page.of p) rest hx ⟨sh,ak,ring,ct⟩∧aO T hx rest t0 p.wait qs 9 g zs) (fun(rest:List Aq) (sh:Int) (ak:Bool) (ring:Aq) (ct:Bool) (T:Nat) (hx:Hd) (g:Hd) (zs:List Aq)=>rest.length) (fun(rest:List Aq) (sh:Int) (ak:Bool) (ring:Aq) (ct:Bool) (T:Nat) (hx:Hd) (g:Hd) (zs:List Aq)=> []) (fun(rest:List Aq) (sh:Int) (ak:Bool) (ring:Aq) (ct:Bool) (T:Nat) (hx:Hd) (g:Hd) (zs:List Aq)=> [Ac.own g 9 1 (zs.flatMap A7),Ac.box b1 65 (As.enc ⟨hx,sh,ak,ring,ct⟩)]) (qs) (p.shown) (p.B6) (p.ring) (p.cut) (t0) (p.wait) (_) (_) ?_ rfl rfl (fun rest sh ak ring ct T hx g zs hI1=>?_)
 · exact⟨Page.FI.start hgd.1 hl0 hs, .inl ⟨rfl,rfl,rfl,rfl,rfl⟩⟩
 obtain⟨hI11,hor⟩:=hI1;have hl:=hI11.hl;have hn:=hI11.n;have hr:=hI11.ring;have hs0:=hI11.s0;have hs1:=hI11.s1;dsimp only at hr hs0 hs1
 refine CB (Gt (Ah H8 rfl) (Gt (AG rfl FW .m1 As.l0 rfl rfl) (Gt (Av rfl Tryz.underlying52 rfl) (Gt (Ck rfl rfl) (Gm rfl (Bl 23 rfl rfl (fun q=>Ah Q0 rfl) (Bl 23 rfl rfl (fun q=>AG (Bf rfl q) DN .m1 As.l2 rfl rfl) ?_)))))))
 refine Bl 23 rfl rfl (fun q=>BQ (Bf rfl q)) (Gt (BJ rfl rfl (fun h=>h)) (Gm rfl (Bl 28 rfl rfl (fun q=>Ah Kr rfl) (Bl 28 rfl rfl (fun q=>AG (Bf rfl q) DN .m1 As.l4 rfl rfl) (Bl 28 rfl rfl (fun q=>BQ (Bf rfl q)) (Gt (BJ rfl rfl (fun h=>h)) (Gn (.t4 1 2 4 32) ?_)))))))
 refine Gc (fun c2=>?_) (fun c2=>?_)
 ·
  have c2p:=kz c2
  have hc3:0 < rest.length∧ak=false∧ct=false:=by simp at c2;exact⟨by omega,c2.1.2,c2.2⟩
  obtain⟨hc0,hak,hct⟩:=hc3
  obtain⟨q,r,rfl⟩:=Bg.UL (qs:=rest) (by omega)
  refine Aa ?_
  refine AB (.t3 1 2 4) ?_
  refine AA (Ae (CB (Gm rfl (Gt (Ck rfl rfl) (Gm rfl (Bl 35 rfl rfl (fun q=>Ah ML rfl) (Bl 35 rfl rfl (fun q=>AG (Bf rfl q) A5 .m1 As.l1 rfl rfl) ?_)))))))
  refine Bl 35 rfl rfl (fun q=>AE rfl) (Bl 35 rfl rfl (fun q=>CI (Bf rfl q) (Bf rfl q)) (Gt (BJ rfl rfl (fun h=>h)) (Gn (.t4 1 2 4 40) ?_)))
  refine Gc (fun c3=>?_) (fun c3=>?_)
  ·
   have c3p:=kz c3
   refine Gs (Gt (Ah Q0 rfl) ?_)
   refine AS (AK As.l2 rfl rfl rfl J8 rfl (.t .h)) ?_
   refine Gn (.t2 2 4) (Gs (Gt (AY rfl Cr .m1 (AU.id As.fl.len As.fl.one) rfl) ?_))
   refine BA rfl WH (.c rfl (.c rfl .n)) (fun w hS=>ES _ _ (by first | omega | (have h1:=Page.Ha ((q :: r).getD (0:Int).toNat []);have h2:=hI11.len ((q :: r).getD (0:Int).toNat []) (by simp);simp only [List.length_append,List.length_cons,List.length_nil] at *;omega)) w) ?_
   refine Gm rfl (Gt (AN rfl rfl) (Gt (AN rfl rfl) ?_))
   refine AS (AK (AU.id As.fl.len As.fl.one) rfl rfl rfl FO rfl (.t .h)) ?_
   refine Gn (.t2 2 4) (Ba (AW ?_))
   refine Jd rfl ?_
   refine AW (Af (AA (Gs (Gt (AY rfl Cr .m1 (AU.id As.fl.len As.fl.one) rfl) ?_))))
   refine AS (AK (AU.id As.fl.len As.fl.one) rfl rfl rfl FO rfl (.t (.t .h))) ?_
   refine Ga rfl (Gn (.t2 4 5) (Ab ?_))
   refine AZ rfl (.cell rfl .m2 (.inl ⟨(by rw [As.fl.len];exact Cr),rfl⟩) (.tmp rfl .n)) ?_
   intro w1 hS
   have hS:=(hS.perm (Ax.perm (.c .h .n))).A1
   have e:=hI11.asks hak hct c3
   exact⟨_, .inr ⟨c1,T,hx,g,zs,(by first | (rw [e];done) | (rw [e];rfl)),(by rw [e];exact hI11.hl),(by rw [e];exact hor),rfl⟩,hS⟩
  have c3p:=kz c3
  refine Aa ?_
  refine AB (.t3 1 2 4) ?_
  refine AA (Gs (Gt (Ah H8 rfl) (Gt (AG rfl FW .m1 As.l0 rfl rfl) ?_)))
  refine Gt (Br JU (by decide) (ZU hor (Kn.I0 r0) (Kn.own .m0)) rfl rfl (by omega) (by omega)) ?_
  refine Gt (Dj rfl CP (ZU hor (Kn.I0 r0) (Kn.own .m0)) (by simp)) ?_
  refine Ga rfl (Gn (.t4 1 2 4 6) (Gs (Gt (Ah H8 rfl) (Gt (AG rfl FW .m1 As.l0 rfl rfl) ?_))))
  refine Gt (SQ Tryz.underlying52 Em rfl rfl (by decide) (by first | omega | (have h1:=Page.Ha ((q :: r).getD (0:Int).toNat []);have h2:=hI11.len ((q :: r).getD (0:Int).toNat []) (by simp);simp only [List.length_append,List.length_cons,List.length_nil] at *;omega))) ?_
  refine BF rfl Ut (.c rfl .n) .n (Bv _ r (by simp only [List.length_cons] at *;omega)) (fun w hS=>by have h:=(Kn.cut (l:=1) (r:=hx.len) DZ (ZU hor (Kn.I0 r0) (Kn.own .m0)) (by omega) (Nat.le_refl _) (cO hor (VG.of k0) (VG.own .m0))) w hS;rw [show(((q :: r).take hx.len).drop 1)=r from by rw [List.take_of_length_le (by simp only [List.length_cons] at *;omega)];rfl] at h;exact h) (fun v2 B hv=>?_)
  obtain⟨y3,rfl,y4,rfl⟩:=hv
  refine Gt (Ah H8 rfl) ?_
  refine AS (AK As.l0 rfl rfl rfl MO rfl (.t (.t .h))) ?_
  refine Gn (.t4 1 2 4 6) (Gs (Gt (Ah ML rfl) (Gt (AG rfl A5 .m2 As.l1 rfl rfl) ?_)))
  refine Gt (Aw rfl rfl (IntWalk.i64_in _ (by first | omega | (have h1:=Page.Ha ((q :: r).getD (0:Int).toNat []);have h2:=hI11.len ((q :: r).getD (0:Int).toNat []) (by simp);simp only [List.length_append,List.length_cons,List.length_nil] at *;omega)))) ?_
  refine Gt (L5 rfl rfl) (Gt (Ah ML rfl) ?_)
  refine AS (AK As.l1 rfl rfl rfl DB rfl (.t (.t .h))) ?_
  refine Gn (.t4 1 2 4 6) ?_
  refine BE (N:=9) [0,0,2,6,15,31,63,63,127] mix (by kernel_rfl) rfl ?_
  refine Pf 0 rfl (AY rfl Cr .m2 (AU.id As.fl.len As.fl.one) rfl) (Pf 1 rfl (AE rfl) ?_)
  refine BN 2 rfl rfl (by kernel_rfl) (Lj (K4 (D7 cr (.c rfl .n) (fun w hS=>K8 _ (hI11.len _ (by simp)) w)))) ?_
  refine Pf 3 rfl (CU rfl rfl (by first | omega | (have h1:=Page.Ha ((q :: r).getD (0:Int).toNat []);have h2:=hI11.len ((q :: r).getD (0:Int).toNat []) (by simp);simp only [List.length_append,List.length_cons,List.length_nil] at *;omega))) ?_
  refine BN 4 rfl rfl (by kernel_rfl) (Lj (K4 (D7 WH (.c rfl (.c rfl .n)) (fun w hS=>ES _ _ (by first | omega | (have h1:=Page.Ha ((q :: r).getD (0:Int).toNat []);have h2:=hI11.len ((q :: r).getD (0:Int).toNat []) (by simp);simp only [List.length_append,List.length_cons,List.length_nil] at *;omega)) w)))) ?_
  refine Pf 5 rfl (AE rfl) (Pf 6 rfl (AN rfl rfl) (Pf 7 rfl (AN rfl rfl) ?_))
  refine An 8 rfl (by kernel_rfl) ?_
  refine AS (AK (AU.id As.fl.len As.fl.one) rfl rfl rfl FO rfl (.t (.t .h))) ?_
  refine BO rfl ⟨?_,?_⟩
  · exact(Po rfl (AN rfl rfl) rfl rfl (Pk (Pk (Pk (Pk (Pk (Pk (Pk Ar))))))))
  refine A4 (by kernel_rfl) ?_
  refine AB (.t3 1 2 4) ?_
  refine AV ?_
  refine CJ (.c .h (.c (.t .h) (.c (.t .h) .n))) ?_
  refine Cc ?_
  refine U5 (r) _ _ _ _ (9) _ _ (r) ?_ ?_ (.t3 1 2 4) (.refl _)
  · exact⟨hI11.next hak hct c3 (by assumption) rfl, .inr ⟨rfl,rfl,rfl⟩⟩
  · simp only [List.length_cons];omega
 refine Ba (AW (AW (Af ?_)))
 refine AB (.t2 2 4) ?_
 refine AA (Gs (Gt (AY rfl Cr .m1 (AU.id As.fl.len As.fl.one) rfl) ?_))
 refine AS (AK (AU.id As.fl.len As.fl.one) rfl rfl rfl FO rfl (.t (.t .h))) ?_
 refine Ga rfl (Gn (.t2 4 5) (Ab ?_))
 refine AZ rfl (.cell rfl .m2 (.inl ⟨(by rw [As.fl.len];exact Cr),rfl⟩) (.tmp rfl .n)) ?_
 intro w1 hS
 have hS:=(hS.perm (Ax.perm (.c .h .n))).A1
 have e:=hI11.bD c2
 exact⟨_, .inr ⟨c1,T,hx,g,zs,(by first | (rw [e];done) | (rw [e];rfl)),(by rw [e];exact hI11.hl),(by rw [e];exact hor),rfl⟩,hS⟩
theorem Ds (b:Nat)(V:AL)(ls:Vector BI 4)(ev:List Ing.Event)(n m:Nat)(hF:AI.Fit (A3 V ls ev) n m)(hn:n≤600000)(hm:m≤600000):FK Tryz.prog 65 #[.pointer (some ⟨b,0,none⟩)] [Ac.box b 101 (AL.enc V),Ac.Dv (CG 9 (AL.Ao V) ls),Ac.own (AL.last V) 56 16 ((ev).flatMap Ing.Event.enc)] (fun w=>(GV 2 Fo w∧2 ∉ Cf [Ac.box b 101 (AL.enc V),Ac.Dv (CG 9 (AL.Ao V) ls),Ac.own (AL.last V) 56 16 ((ev).flatMap Ing.Event.enc)])∧(GV 0 AH.DG w∧0 ∉ Cf [Ac.box b 101 (AL.enc V),Ac.Dv (CG 9 (AL.Ao V) ls),Ac.own (AL.last V) 56 16 ((ev).flatMap Ing.Event.enc)])∧(Gu 7 w∧7 ∉ Cf [Ac.box b 101 (AL.enc V),Ac.Dv (CG 9 (AL.Ao V) ls),Ac.own (AL.last V) 56 16 ((ev).flatMap Ing.Event.enc)])∧(Gu 8 w∧8 ∉ Cf [Ac.box b 101 (AL.enc V),Ac.Dv (CG 9 (AL.Ao V) ls),Ac.own (AL.last V) 56 16 ((ev).flatMap Ing.Event.enc)])) (fun v B=>∃ V' ls' ev',v = .tuple #[]∧A3 V' ls' ev'=AI.Be (A3 V ls ev)∧B = [Ac.box b 101 (AL.enc V'),Ac.Dv (CG 9 (AL.Ao V') ls'),Ac.own (AL.last V') 56 16 ((ev').flatMap Ing.Event.enc)]):=by
 intro w hS0 hH
 obtain⟨⟨gl0,gm0⟩,⟨gl1,gm1⟩,⟨gl2,gm2⟩,⟨gl3,gm3⟩⟩:=hH
 refine Ak _ _ Tryz.func65 rfl rfl rfl (hS0) ?_
 refine Gs (Gm rfl (AR (AA (Ae ?_))))
 refine Bo (.t2 5 0) ?_
 refine Bh (.t (.t .h)) ?_
 refine Bh (.t (.t .h)) ?_
 refine Bh (.t (.t .h)) ?_
 refine HS (fun(k:Int) (V1:AL) (ls1:Vector BI 4) (ev1:List Ing.Event)=>0≤k∧k≤5∧(A3 V ls ev).Be=(A3 V1 ls1 ev1).HT (5 - k).toNat∧AI.Fit (A3 V1 ls1 ev1) (n+44 * k.toNat) (m+44 * k.toNat)) (fun(k:Int) (V1:AL) (ls1:Vector BI 4) (ev1:List Ing.Event)=>(5 - k).toNat) (fun(k:Int) (V1:AL) (ls1:Vector BI 4) (ev1:List Ing.Event)=> [(5, .int .i64 k)]) (fun(k:Int) (V1:AL) (ls1:Vector BI 4) (ev1:List Ing.Event)=> [Ac.box b 101 (AL.enc V1),Ac.Dv (CG 9 (AL.Ao V1) ls1),Ac.own (AL.last V1) 56 16 (ev1.flatMap Ing.Event.enc)]) (0) (V) (ls) (ev) ?_ rfl rfl (fun k V1 ls1 ev1 hI1=>?_)
 · exact⟨by omega,by omega,rfl,hF⟩
 obtain⟨hI11,hI12,hI13,hI14⟩:=hI1
 refine Gs (Gt (A8 rfl rfl) (AR (AA (Ap ?_))))
 refine Gc (fun c1=>?_) (fun c1=>?_)
 ·
  have c1p:=kz c1
  refine Aa ?_
  refine AB (.t2 0 5) ?_
  refine AA (Ap (Ae (Gs (Ga rfl (AR (AA (CB ?_)))))))
  refine Gm rfl (AR (AA (Ae ?_)))
  refine Bo (.t4 2 7 0 5) ?_
  refine Bh (.t (.t .h)) ?_
  refine Bh (.t (.t .h)) ?_
  refine Bh (.t (.t .h)) ?_
  refine Re (fun(i:Int) (V2:AL) (ls2:Vector BI 4) (ev2:List Ing.Event) (c:Bool)=>0≤i∧i≤4∧((A3 V2 ls2 ev2),c)=(A3 V1 ls1 ev1).Cg i.toNat) (fun(i:Int) (V2:AL) (ls2:Vector BI 4) (ev2:List Ing.Event) (c:Bool)=>(4 - i).toNat) (fun(i:Int) (V2:AL) (ls2:Vector BI 4) (ev2:List Ing.Event) (c:Bool)=> [(2, .bool c),(7, .int .i64 i)]) (fun(i:Int) (V2:AL) (ls2:Vector BI 4) (ev2:List Ing.Event) (c:Bool)=> [Ac.box b 101 (AL.enc V2),Ac.Dv (CG 9 (AL.Ao V2) ls2),Ac.own (AL.last V2) 56 16 (ev2.flatMap Ing.Event.enc)]) (0) (V1) (ls1) (ev1) (false) ?_ rfl rfl (fun i V2 ls2 ev2 c hI2=>?_)
  · exact⟨by omega,by omega,rfl⟩
  obtain⟨hI21,hI22,hI23⟩:=hI2
  refine Gs (Gt (A8 rfl rfl) (AR (AA (Ap ?_))))
  refine Gc (fun c2=>?_) (fun c2=>?_)
  ·
   have c2p:=kz c2
   have hi:0≤i∧i < 4:=⟨by omega,by omega⟩
   have hF2:=PZ hI14 hi.1 (by omega) hI23
   refine Aa ?_
   refine AB (.t4 0 2 5 7) ?_
   refine AA (Ap (Ae (Gs (Gm rfl (Ga rfl (Gn (.t5 0 2 3 5 7) (Gs ?_)))))))
   refine Gm rfl (Gm rfl (Gt (BV rfl) (Gt (Ah Ft rfl) ?_)))
   refine Gt (AQ NX rfl rfl (by first | omega | exact hi.1 | exact hi.2) (by first | omega | exact hi.1 | exact hi.2)) ?_
   refine Ga rfl (Gn (.t5 0 2 4 5 7) (CB (Gm rfl (Gt (BV rfl) (Gt (Ah JK rfl) ?_)))))
   refine Gt (AG rfl A5 .m0 ((AL.l1.comp (AU.ar (n:=4) A2.fl (by first | omega | exact hi))).comp A2.l0) rfl rfl) ?_
   refine Gt (Aj rfl rfl) (Gn (.t6 0 2 4 5 7 19) ?_)
   refine Gc (fun c3=>?_) (fun c3=>?_)
   ·
    have c3p:=kz c3
    refine Ba (AW (Af ?_))
    refine AB (.t4 0 2 5 7) ?_
    refine AA (AJ ?_)
    refine Gt (Aw rfl rfl (IntWalk.i64_in _ (by first | omega | exact hi.1 | exact hi.2))) ?_
    refine Gm rfl ?_
    refine AR (AB (.t4 0 2 5 7) ?_)
    refine KI (i+1) _ _ _ _ ?_ ?_ (.t4 2 7 0 5) (.refl _)
    · exact⟨by omega,by omega,((K9 hi.1 hi.2 hI23).trans (BB c3)).symm⟩
    · omega
   have c3p:=kz c3
   refine Aa ?_
   refine AB (.t5 0 2 4 5 7) ?_
   refine AA ?_
   refine Bh (.t (.t .h)) ?_
   refine Bh (.t (.t .h)) ?_
   refine Bh (.t (.t .h)) ?_
   refine QS (Lm:= [_,_,_]) (fun(V3:AL) (ls3:Vector BI 4)=>(A3 V3 ls3 ev2)=(A3 V2 ls2 ev2).set i ((A3 V2 ls2 ev2).at_ i).Be) (fun(V3:AL) (ls3:Vector BI 4)=> []) (fun(V3:AL) (ls3:Vector BI 4)=> [Ac.box b 101 (AL.enc V3),Ac.Dv (CG 9 (AL.Ao V3) ls3),Ac.own (AL.last V3) 56 16 (ev2.flatMap Ing.Event.enc)]) (.t5 0 2 4 5 7) rfl ?_ (fun V3 ls3 hC=>?_)
   ·
    refine E4 (k:=i) hi.1 hi.2 (fun sv sl hsv hlv hln=>?_)
    refine BE (N:=17) [0,0,2,6,14,0,32,96,224,480,1022,2046,4094,4094,8191,24575,57343] mix (by kernel_rfl) rfl ?_
    refine Pf 0 rfl (AE rfl) (Pf 1 rfl (AE rfl) (Pf 2 rfl (BV rfl) (Pf 3 rfl (Ah Dn rfl) (Pf 4 rfl (AY rfl Cr .m3 ((AU.BL V2 hi.1 hi.2).comp A2.l4) rfl) (Pf 5 rfl (AE rfl) (Pf 6 rfl (BV rfl) (Pf 7 rfl (Ah K2 rfl) ?_)))))))
    refine Pf 8 rfl (Ah RD rfl) (Pf 9 rfl (AG rfl A5 .m3 (((AU.BL V2 hi.1 hi.2).comp A2.l2).comp AP.l5) rfl rfl) ?_)
    refine An 10 rfl (by kernel_rfl) ?_
    refine BF rfl dO (.c rfl (.c rfl .n)) .n (Mu _ _ _ (by rw [← hlv];exact Xh hF2 hi.1 hi.2)) (fun w hS=>⟨(Kn.own .m1) w hS,(VG.own .m1) w hS⟩) (fun v1 B hv=>?_)
    rcases hv with ⟨y2,rfl,rfl⟩ | ⟨y3,y4,y5,y6,y7,rfl,y8,y9,rfl⟩
    ·
     refine Bp rfl ⟨?_,?_⟩
     · exact(Pk (Pk (Pk (Pk (Pk (Pk (Pk (Pk (Pk (Po rfl (AE rfl) rfl rfl Ar))))))))))
     refine Pf 11 rfl (AE rfl) (Pf 12 rfl (AN rfl rfl) (Pf 13 rfl (AN rfl rfl) (Pf 14 rfl (BV rfl) (Pf 15 rfl (Ah Dn rfl) ?_))))
     refine An 16 rfl (by kernel_rfl) ?_
     refine AS (AK ((AU.BL V2 hi.1 hi.2).comp A2.l4) rfl rfl rfl FO rfl (.t (.t (.t .h)))) ?_
     refine BO rfl ⟨?_,?_⟩
     · exact(Pk (Pk (Po rfl (AN rfl rfl) rfl rfl (Pk (Pk (Pk (Pk (Pk (Pk (Pk (Pk (Pk (Pk (Pk (Pk Ar)))))))))))))))
     refine A4 (by kernel_rfl) ?_
     refine AB (.t5 0 2 4 5 7) ?_
     refine CJ (.c .h (.c .h (.c .h (.c .h (.c .h .n))))) ?_
     refine SH hi.1 hi.2 (by rfl) (by rfl) (by rfl) ?_
     refine Eb _ _ ?_ (.t5 0 2 4 5 7) (.refl _)
     · exact Ek hi.1 hi.2 hsv hlv (f:=Az.Be) (LV hln.2.1 y2)
    refine Bp rfl ⟨?_,?_⟩
    · exact(Pk (Pk (Pk (Pk (Pk (Pk (Pk (Pk (Pk (Po rfl (AE rfl) rfl rfl Ar))))))))))
    refine Pf 11 rfl (AE rfl) (Pf 12 rfl (AN rfl rfl) (Pf 13 rfl (AN rfl rfl) (Pf 14 rfl (BV rfl) (Pf 15 rfl (Ah Dn rfl) ?_))))
    refine An 16 rfl (by kernel_rfl) ?_
    refine AS (AK ((AU.BL V2 hi.1 hi.2).comp A2.l4) rfl rfl rfl FO rfl (.t (.t (.t (.t .h))))) ?_
    refine BO rfl ⟨?_,?_⟩
    · exact(Pk (Pk (Po rfl (AN rfl rfl) rfl rfl (Pk (Pk (Pk (Pk (Pk (Pk (Pk (Pk (Pk (Pk (Pk (Pk Ar)))))))))))))))
    refine A4 (by kernel_rfl) ?_
    refine AB (.t5 0 2 4 5 7) ?_
    refine CJ (.c .h (.c (.t .h) .n)) ?_
    refine aa y9 ?_
    refine CJ (.c (.t .h) (.c .h (.c .h (.c .h (.c .h .n))))) ?_
    refine SH hi.1 hi.2 (by rfl) (by rfl) (by rfl) ?_
    refine Eb _ _ ?_ (.t5 0 2 4 5 7) (.refl _)
    · exact Ek hi.1 hi.2 hsv hlv (f:=Az.Be) (YX hln.2.1 y3 _)
   refine Gs (Gm rfl (Gt (BV rfl) (Gt (Ah Dn rfl) (Gt (Ah Kr rfl) ?_))))
   refine Gt (AG rfl DN .m0 (((AL.l1.comp (AU.ar (n:=4) A2.fl (by first | omega | exact hi))).comp A2.l4).comp As.l4) rfl rfl) ?_
   refine Gn (.t6 0 2 4 5 7 40) ?_
   refine Gc (fun c4=>?_) (fun c4=>?_)
   ·
    have c4p:=kz c4
    refine Gs (Gm rfl (Gm rfl ?_))
    refine BF rfl ZT (.c rfl (.c rfl .n)) (.c .h (.c .h (.c .h .n))) (IF _ V3 ls3 ev2 i _ _ hi (by rw [hC];exact hF2.Wp hi.1 hi.2) (by omega) (by omega)) (fun w hS=>⟨gl0.pull gm0 hS (.c .h (.c .h (.c .h .n))),gl1.pull gm1 hS (.c .h (.c .h (.c .h .n))),gl2.pull gm2 hS (.c .h (.c .h (.c .h .n))),gl3.pull gm3 hS (.c .h (.c .h (.c .h .n)))⟩) (fun v13 B hv=>?_)
    obtain⟨y14,y15,y16,rfl,y17,rfl⟩:=hv
    refine Gn (.t3 0 5 7) (AJ (Ga rfl (AR (AV (AA (AJ ?_))))))
    refine Gt (Aw rfl rfl (IntWalk.i64_in _ (by first | omega | exact hi.1 | exact hi.2))) ?_
    refine Gm rfl ?_
    refine AR (AB (.t4 0 2 5 7) ?_)
    refine KI (i+1) _ _ _ _ ?_ ?_ (.t4 2 7 0 5) (.refl _)
    · exact⟨by omega,by omega,(((K9 hi.1 hi.2 hI23).trans ((AX c3).trans (BB (show _=true from(Tx hi.1 hi.2 hC).symm.trans c4)))).trans (by rw [← hC,← y17])).symm⟩
    · omega
   have c4p:=kz c4
   refine Aa ?_
   refine AB (.t4 0 2 5 7) ?_
   refine AV (AA (AJ ?_))
   refine Gt (Aw rfl rfl (IntWalk.i64_in _ (by first | omega | exact hi.1 | exact hi.2))) ?_
   refine Gm rfl ?_
   refine AR (AB (.t4 0 2 5 7) ?_)
   refine KI (i+1) _ _ _ _ ?_ ?_ (.t4 2 7 0 5) (.refl _)
   · exact⟨by omega,by omega,(((K9 hi.1 hi.2 hI23).trans ((AX c3).trans (AX (show _=false from(Tx hi.1 hi.2 hC).symm.trans c4)))).trans (by rw [← hC])).symm⟩
   · omega
  have c2p:=kz c2
  obtain rfl:i=4:=by omega
  have hE:(A3 V1 ls1 ev1).Cg 4=((A3 V2 ls2 ev2),c):=hI23.symm
  refine Ba (AW (AW (Af ?_)))
  refine AB (.t3 0 2 5) ?_
  refine AA (Gs (Gm rfl (Gt (BQ rfl) (Gn (.t3 0 5 46) ?_))))
  refine Gc (fun c5=>?_) (fun c5=>?_)
  ·
   have c5p:=kz c5
   refine Ab (AT (AD (AD (AT ?_))))
   refine AZ rfl .n ?_
   intro w1 hS
   have hS:=(hS.perm (Ax.perm (.c .h (.c .h (.c .h .n))))).A1
   refine⟨_,⟨V2,ls2,ev2,rfl,?ga1,rfl⟩,hS⟩
   case ga1=>exact(hI13.trans ((OK hI11 (by omega)).trans ((BB (show(!((A3 V1 ls1 ev1).Cg 4).2)=true by rw [hE];exact c5)).trans (by rw [hE])))).symm
  have c5p:=kz c5
  refine Aa ?_
  refine AB (.t2 0 5) ?_
  refine AV (AA (AJ ?_))
  refine Gt (Aw rfl rfl (IntWalk.i64_in _ (by first | omega | exact hi.1 | exact hi.2))) ?_
  refine Gm rfl ?_
  refine AR (AB (.t2 0 5) ?_)
  refine Cy (k+1) _ _ _ ?_ ?_ (.t2 5 0) (.refl _)
  · exact⟨by omega,by omega,hI13.trans ((OK hI11 (by omega)).trans ((AX (show(!((A3 V1 ls1 ev1).Cg 4).2)=false by rw [hE];exact c5)).trans (by rw [hE]))),(PZ hI14 (by omega) (by omega) hI23).mono (by omega) (by omega)⟩
  · omega
 have c1p:=kz c1
 refine Ba (AW (AW (Af ?_)))
 refine Bk rfl .n ?_
 intro w1 hS
 have hS:=(hS.perm (Ax.perm (.c .h (.c .h (.c .h .n))))).A1
 refine⟨_,⟨V1,ls1,ev1,rfl,?ga2,rfl⟩,hS⟩
 case ga2=>exact(hI13.trans (by rw [show(5 - k).toNat=0 by omega];rfl)).symm
theorem PF (b:Nat)(V:AL)(ls:Vector BI 4)(ev:List Ing.Event)(d:Int)(n m:Nat)(hF:AI.Fit (A3 V ls ev) n m)(hn:n≤500000)(hm:m≤500000):FK Tryz.prog 60 #[.pointer (some ⟨b,0,none⟩), .int .i64 d] [Ac.box b 101 (AL.enc V),Ac.Dv (CG 9 (AL.Ao V) ls),Ac.own (AL.last V) 56 16 ((ev).flatMap Ing.Event.enc)] (fun w=>(GV 2 Fo w∧2 ∉ Cf [Ac.box b 101 (AL.enc V),Ac.Dv (CG 9 (AL.Ao V) ls),Ac.own (AL.last V) 56 16 ((ev).flatMap Ing.Event.enc)])∧(GV 0 AH.DG w∧0 ∉ Cf [Ac.box b 101 (AL.enc V),Ac.Dv (CG 9 (AL.Ao V) ls),Ac.own (AL.last V) 56 16 ((ev).flatMap Ing.Event.enc)])∧(Gu 7 w∧7 ∉ Cf [Ac.box b 101 (AL.enc V),Ac.Dv (CG 9 (AL.Ao V) ls),Ac.own (AL.last V) 56 16 ((ev).flatMap Ing.Event.enc)])∧(Gu 8 w∧8 ∉ Cf [Ac.box b 101 (AL.enc V),Ac.Dv (CG 9 (AL.Ao V) ls),Ac.own (AL.last V) 56 16 ((ev).flatMap Ing.Event.enc)])) (fun v B=>∃ V' ls' ev',v = .tuple #[]∧A3 V' ls' ev'=AI.Ni (A3 V ls ev) d∧B = [Ac.box b 101 (AL.enc V'),Ac.Dv (CG 9 (AL.Ao V') ls'),Ac.own (AL.last V') 56 16 ((ev').flatMap Ing.Event.enc)]):=by
 intro w hS0 hH
 obtain⟨⟨gl0,gm0⟩,⟨gl1,gm1⟩,⟨gl2,gm2⟩,⟨gl3,gm3⟩⟩:=hH
 refine Ak _ _ Tryz.func60 rfl rfl rfl (hS0) ?_
 refine CB (Gm rfl (AR (AA (Ae ?_))))
 refine Bo (.t3 8 0 1) ?_
 refine Bh (.t (.t .h)) ?_
 refine Bh (.t (.t .h)) ?_
 refine Bh (.t (.t .h)) ?_
 refine HS (fun(i:Int) (V1:AL) (ls1:Vector BI 4) (ev1:List Ing.Event)=>0≤i∧i≤4∧(A3 V1 ls1 ev1)=AI.turns (A3 V ls ev) i.toNat) (fun(i:Int) (V1:AL) (ls1:Vector BI 4) (ev1:List Ing.Event)=>(4 - i).toNat) (fun(i:Int) (V1:AL) (ls1:Vector BI 4) (ev1:List Ing.Event)=> [(8, .int .i64 i)]) (fun(i:Int) (V1:AL) (ls1:Vector BI 4) (ev1:List Ing.Event)=> [Ac.box b 101 (AL.enc V1),Ac.Dv (CG 9 (AL.Ao V1) ls1),Ac.own (AL.last V1) 56 16 (ev1.flatMap Ing.Event.enc)]) (0) (V) (ls) (ev) ?_ rfl rfl (fun i V1 ls1 ev1 hI1=>?_)
 · exact⟨by omega,by omega,rfl⟩
 obtain⟨hI11,hI12,hI13⟩:=hI1
 refine Gs (Gt (A8 rfl rfl) (AR (AA (Ap ?_))))
 refine Gc (fun c1=>?_) (fun c1=>?_)
 ·
  have c1p:=kz c1
  have hi:0≤i∧i < 4:=⟨by omega,by omega⟩
  refine Aa ?_
  refine AB (.t3 0 1 8) ?_
  refine AA (Ap (Ae (Gs (Gm rfl (Ga rfl (Gn (.t4 0 1 4 8) (AJ ?_)))))))
  refine Gm rfl (Gm rfl (Gm rfl (Gt (BV rfl) (Gt (Ah Ft rfl) ?_))))
  refine Gt (AQ NX rfl rfl (by first | omega | exact hi.1 | exact hi.2) (by first | omega | exact hi.1 | exact hi.2)) ?_
  refine BF rfl dA (.c rfl (.c rfl .n)) (.c .h (.c .h (.c .h .n))) (QU _ V1 ls1 ev1 i (n+44) (m+44) hi (by rw [hI13];exact(AI.KF hF i.toNat (by omega)).mono (by omega) (by omega)) (by omega) (by omega)) (fun w hS=>⟨gl0.pull gm0 hS (.c .h (.c .h (.c .h .n))),gl1.pull gm1 hS (.c .h (.c .h (.c .h .n))),gl2.pull gm2 hS (.c .h (.c .h (.c .h .n))),gl3.pull gm3 hS (.c .h (.c .h (.c .h .n)))⟩) (fun v1 B hv=>?_)
  obtain⟨y2,y3,y4,rfl,y5,rfl⟩:=hv
  refine AR (AB (.t3 0 1 8) ?_)
  refine AV (AA (AJ ?_))
  refine Gt (Aw rfl rfl (IntWalk.i64_in _ (by first | omega | exact hi.1 | exact hi.2))) ?_
  refine Gm rfl ?_
  refine AR (AB (.t3 0 1 8) ?_)
  refine Cy (i+1) _ _ _ ?_ ?_ (.t3 8 0 1) (.refl _)
  · exact⟨by omega,by omega,y5.trans (by rw [hI13];exact(TB hI11).symm)⟩
  · omega
 have c1p:=kz c1
 obtain rfl:i=4:=by omega
 have hF1:=AI.KF hF 4 (Nat.le_refl 4)
 rw [show(4:Nat)=(4:Int).toNat from rfl,← hI13] at hF1
 have hrl:(AF.CV V1.w d).2.1.length≤78:=AF.Px hF1.Fe.H3 d
 have hrs:=AF.LH (draw:=d) hF1.Fe
 have hF4:=((hF1.land hrs.1).Gy hrs.2).mono (Nat.add_le_add_left hrl _) (Nat.add_le_add_left hrl _)
 refine Ba (AW (AW (Af ?_)))
 refine AB (.t2 0 1) ?_
 refine AA (Gs (Gm rfl (Gt (BV rfl) (Gt (Ah D8 rfl) (Gt (AY rfl BW .m0 AL.l0 rfl) (Gm rfl ?_))))))
 refine BF rfl cn (.c rfl (.c rfl .n)) .n (Mc V1.w d hF1.Fe.H3) (fun w hS=>gl1.pull gm1 hS .n) (fun v6 B hv=>?_)
 obtain⟨y7,rfl,y8,rfl⟩:=hv
 refine Gm rfl (Gt (AN rfl rfl) (Gt (AN rfl rfl) (Gt (AN rfl rfl) ?_)))
 refine BD rfl L6 rfl (fun b1=>?_)
 refine AS (AK (AU.id AH.fl.len AH.fl.one) rfl rfl rfl D3 rfl .h) ?_
 refine Ga rfl (Ga rfl (Gn (.t3 0 5 6) (Gs (Gm rfl (Gt (AY rfl BW .m0 (AU.id AH.fl.len AH.fl.one) rfl) (Gt (BV rfl) (Gt (Ah D8 rfl) ?_)))))))
 refine AS (AK AL.l0 rfl rfl rfl D3 rfl (.t (.t .h))) ?_
 refine Gn (.t2 0 6) (Gs (Gm rfl (Gm rfl ?_)))
 refine BF rfl VY (.c rfl (.c rfl .n)) (.c (.t (.t .h)) (.c (.t (.t .h)) (.c (.t (.t .h)) (.c (.t .h) .n)))) (Ew _ { V1 with w:=(AF.CV V1.w d).1 } ls1 ev1 _ (AF.CV V1.w d).2.1 _ (by assumption) (Gj hF1) (by omega) (Nat.le_trans hF1.last (by omega)) (fun e he c _=>hrs.2 e he)) (fun w hS=>⟨gl0.pull gm0 hS (.c (.t (.t .h)) (.c (.t (.t .h)) (.c (.t (.t .h)) (.c (.t .h) .n)))),gl1.pull gm1 hS (.c (.t (.t .h)) (.c (.t (.t .h)) (.c (.t (.t .h)) (.c (.t .h) .n))))⟩) (fun v10 B hv=>?_)
 obtain⟨y11,y12,y13,rfl,y14,rfl⟩:=hv
 refine Gn (.t1 0) (AJ (Gm rfl ?_))
 refine BF rfl SO (.c rfl .n) (.c .h (.c .h (.c .h .n))) (Ds _ y11 y12 y13 _ _ (by rw [y14];exact hF4) (by omega) (by omega)) (fun w hS=>⟨gl0.pull gm0 hS (.c .h (.c .h (.c .h .n))),gl1.pull gm1 hS (.c .h (.c .h (.c .h .n))),gl2.pull gm2 hS (.c .h (.c .h (.c .h .n))),gl3.pull gm3 hS (.c .h (.c .h (.c .h .n)))⟩) (fun v15 B hv=>?_)
 obtain⟨y16,y17,y18,rfl,y19,rfl⟩:=hv
 refine AR ?_
 refine Bk rfl .n ?_
 intro w1 hS
 have hS:=(hS.perm (Ax.perm (.c .h (.c .h (.c .h .n))))).A1
 refine⟨_,⟨y16,y17,y18,rfl,?ga1,rfl⟩,hS⟩
 case ga1=>rw [y19,y14,Nd];show AI.Be (AI.Gy { (A3 V1 ls1 ev1) with w:=(AF.CV ((A3 V1 ls1 ev1)).w d).1 } (AF.CV ((A3 V1 ls1 ev1)).w d).2.1)=_;rw [hI13];rfl
theorem Fu (opt:Int)(w:World):Eh Tryz.prog 73 #[.int .i64 opt] w fun v w'=>v = .tuple #[.int .i64 (AP.place opt).1, .bool (AP.place opt).2.1, .bool (AP.place opt).2.2]∧CA w w':=by
 refine Ak [] [] Tryz.func73 rfl rfl rfl (St.start w []) ?_
 refine Gs (Ga rfl (Ga rfl (Ga rfl (Gn (.t1 0) (CB (Gm rfl (Gn (.t1 5) ?_)))))))
 refine Ae (Gs (Gt (Aj rfl rfl) (Ga rfl (Gn (.t2 5 6) ?_))))
 refine Gc (fun c1=>?_) (fun c1=>?_)
 ·
  refine Gs (Ga rfl (Ga rfl (Ga rfl (Gn (.t3 2 3 4) (Ab (AT (AD ?_)))))))
  refine AZ rfl (.tmp rfl (.tmp rfl (.tmp rfl .n))) ?_
  intro w1 hS;refine⟨?_,hS.Am⟩;simp only [AP.place,c1,↓reduceIte,Bool.false_eq_true];rfl
 refine Gs (Gt (Aj rfl rfl) (Ga rfl (Gn (.t2 5 8) ?_)))
 refine Gc (fun c2=>?_) (fun c2=>?_)
 ·
  refine Gs (Ga rfl (Ga rfl (Ga rfl (Gn (.t3 2 3 4) (Ab (AT (AD ?_)))))))
  refine AZ rfl (.tmp rfl (.tmp rfl (.tmp rfl .n))) ?_
  intro w1 hS;refine⟨?_,hS.Am⟩;simp only [AP.place,c1,c2,↓reduceIte,Bool.false_eq_true];rfl
 refine Gs (Gt (Aj rfl rfl) (Ga rfl (Gn (.t1 10) ?_)))
 refine Gc (fun c3=>?_) (fun c3=>?_)
 ·
  refine Gs (Ga rfl (Ga rfl (Ga rfl (Gn (.t3 2 3 4) (Ab (AT (AD ?_)))))))
  refine AZ rfl (.tmp rfl (.tmp rfl (.tmp rfl .n))) ?_
  intro w1 hS;refine⟨?_,hS.Am⟩;simp only [AP.place,c1,c2,c3,↓reduceIte,Bool.false_eq_true];rfl
 refine Aa ?_
 refine AB (.nil _) ?_
 refine AV (AA (Gs (Ga rfl (Ga rfl (Ga rfl (AR (AA ?_)))))))
 refine Ab ?_
 refine AZ rfl (.tmp rfl (.tmp rfl (.tmp rfl .n))) ?_
 intro w1 hS;refine⟨?_,hS.Am⟩;simp only [AP.place,c1,c2,c3,↓reduceIte,Bool.false_eq_true];rfl
theorem GF (X:AP)(w:World):Eh Tryz.prog 55 #[.agg X.enc.toArray] w fun v w'=>v = .bool X.Bb∧CA w w':=by
 refine Ak [] [] Tryz.func55 rfl rfl rfl (St.start w []) ?_
 refine Gs ?_
 refine B5 rfl rfl rfl (fun b1=>?_)
 refine Ga rfl (Gn (.t1 1) (CB (Gm rfl (AR (AA (Ae ?_))))))
 refine Bo (.t2 4 1) ?_
 refine CQ (fun(k:Int)=>0≤k∧k≤3∧X.Bb=(B7 3 (fun i=>!X.Nn i) (3 - k).toNat && (!(!decide (X.us.at 2=0) || !decide (X.Gb.at 0=0)) && X.P2))) (fun(k:Int)=>(3 - k).toNat) (fun(k:Int)=> [(4, .int .i64 k)]) (fun(k:Int)=> []) (0) ?_ rfl rfl (fun k hI1=>?_)
 · exact⟨Int.le_refl _,by omega,rfl⟩
 obtain⟨hI11,hI12,hI13⟩:=hI1
 refine Gs (Gt (A8 rfl rfl) (AR (AA (Ap ?_))))
 refine Gc (fun c1=>?_) (fun c1=>?_)
 ·
  have c1p:=kz c1
  rw [DY _ (by omega)] at hI13
  refine Aa ?_
  refine AB (.t2 1 4) ?_
  refine AA (Ap (Ae (Gs (Gm rfl (Ga rfl (Gn (.t3 1 3 4) (Gs ?_)))))))
  refine Gm rfl (Gt (Ah K7 rfl) ?_)
  refine Gt (AQ Ko rfl rfl (by omega) (by omega)) ?_
  refine Gt (AG rfl A5 .m0 (AP.l3.comp (AU.ar (n:=3) B2 (by omega))) rfl rfl) ?_
  refine Gt (A8 rfl rfl) (Gm rfl (BZ 12 rfl rfl (fun q=>AE rfl) (BZ 12 rfl rfl (fun q=>Ah K7 rfl) ?_)))
  refine BZ 12 rfl rfl (fun q=>by have q1:=q;(try simp at q1);exact AQ Ko (cF rfl q) (cF rfl q) (by omega) (by omega)) ?_
  refine BZ 12 rfl rfl (fun q=>by have q1:=q;(try simp at q1);exact AG (cF rfl q) A5 .m0 (AP.l3.comp (AU.ar (n:=3) B2 (by omega))) rfl rfl) ?_
  refine BZ 12 rfl rfl (fun q=>Ck (cF rfl q) rfl) ?_
  refine Gt (BS rfl rfl (fun h=>by rw [h];rfl)) ?_
  refine Gm rfl (BZ 19 rfl rfl (fun q=>AE rfl) (BZ 19 rfl rfl (fun q=>Ah J9 rfl) ?_))
  refine BZ 19 rfl rfl (fun q=>by have q1:=q;(try simp at q1);exact AQ Ko (cF rfl q) (cF rfl q) (by omega) (by omega)) ?_
  refine BZ 19 rfl rfl (fun q=>by have q1:=q;(try simp at q1);exact AG (cF rfl q) A5 .m0 (AP.l4.comp (AU.ar (n:=3) B2 (by omega))) rfl rfl) ?_
  refine BZ 19 rfl rfl (fun q=>A8 (cF rfl q) rfl) ?_
  refine Gt (BS rfl rfl (fun h=>by rw [h];rfl)) ?_
  refine Gm rfl (BZ 26 rfl rfl (fun q=>AE rfl) (BZ 26 rfl rfl (fun q=>Ah J9 rfl) ?_))
  refine BZ 26 rfl rfl (fun q=>by have q1:=q;(try simp at q1);exact AQ Ko (cF rfl q) (cF rfl q) (by omega) (by omega)) ?_
  refine BZ 26 rfl rfl (fun q=>by have q1:=q;(try simp at q1);exact AG (cF rfl q) A5 .m0 (AP.l4.comp (AU.ar (n:=3) B2 (by omega))) rfl rfl) ?_
  refine BZ 26 rfl rfl (fun q=>Ck (cF rfl q) rfl) ?_
  refine Gt (BS rfl rfl (fun h=>by rw [h];rfl)) ?_
  refine Gn (.t3 1 4 32) ?_
  refine Gc (fun c2=>?_) (fun c2=>?_)
  ·
   refine Gs (Ga rfl (Gn (.t1 2) (Ab (AT (AD (AD (AT ?_)))))))
   refine AD ?_
   refine AZ rfl (.tmp rfl .n) ?_
   intro w1 hS;refine⟨congrArg Value.bool ?_,hS.Am⟩;rw [hI13,AP.Nn,c2];rfl
  have c2p:=kz c2
  refine Aa ?_
  refine AB (.t2 1 4) ?_
  refine AV (AA (AJ ?_))
  refine Gt (Aw rfl rfl (IntWalk.i64_in _ (by omega))) ?_
  refine Gm rfl ?_
  refine AR (AB (.t2 1 4) ?_)
  refine Bx (k+1) ?_ ?_ (.t2 4 1) (.refl _)
  · exact⟨by omega,by omega,by rw [hI13,AP.Nn,c2];rfl⟩
  · omega
 have c1p:=kz c1
 obtain rfl:k=3:=by omega
 refine Ba (AW (AW (Af ?_)))
 refine AB (.t1 1) ?_
 refine AA (CB (Gt (Ah K7 rfl) ?_))
 refine Gt (AQ Ko rfl rfl (by decide) (by decide)) ?_
 refine Gt (AG rfl A5 .m0 (AP.l3.comp (AU.arr (n:=3) B2 (by decide) (by decide))) rfl rfl) ?_
 refine Gt (Ce rfl rfl) (Gm rfl (BZ 38 rfl rfl (fun q=>Ah J9 rfl) ?_))
 refine BZ 38 rfl rfl (fun q=>AQ Ko (cF rfl q) rfl (by decide) (by decide)) ?_
 refine BZ 38 rfl rfl (fun q=>AG (cF rfl q) A5 .m0 (AP.l4.comp (AU.arr (n:=3) B2 (by decide) (by decide))) rfl rfl) ?_
 refine BZ 38 rfl rfl (fun q=>Ce (cF rfl q) rfl) ?_
 refine Gt (BS rfl rfl (fun h=>by rw [h];rfl)) ?_
 refine Gn (.t2 1 43) ?_
 refine Gc (fun c3=>?_) (fun c3=>?_)
 ·
  refine Gs (Ga rfl (Gn (.t1 2) (Ab (AD ?_))))
  refine AZ rfl (.tmp rfl .n) ?_
  intro w1 hS;refine⟨congrArg Value.bool ?_,hS.Am⟩;rw [hI13,c3];rfl
 refine Aa ?_
 refine AB (.t1 1) ?_
 refine AA (Gs (Gt (Ah Fq rfl) (Gt (AG rfl A5 .m0 AP.l0 rfl rfl) (Gt (CI rfl rfl) (Gm rfl (Bl 47 rfl rfl (fun q=>Ah Fq rfl) (Bl 47 rfl rfl (fun q=>AG (Bf rfl q) A5 .m0 AP.l0 rfl rfl) ?_)))))))
 refine Bl 47 rfl rfl (fun q=>IK (Bf rfl q) rfl) (Gt (BJ rfl rfl (fun h=>h)) (Gm rfl (Bl 52 rfl rfl (fun q=>Ah Fq rfl) (Bl 52 rfl rfl (fun q=>AG (Bf rfl q) A5 .m0 AP.l0 rfl rfl) (Bl 52 rfl rfl (fun q=>Aj (Bf rfl q) rfl) (Bl 52 rfl rfl (fun q=>Ah LJ rfl) (Bl 52 rfl rfl (fun q=>AG (Bf rfl q) A5 .m0 AP.l1 rfl rfl) ?_)))))))
 refine Bl 52 rfl rfl (fun q=>Ce (Bf rfl q) rfl) (Bl 52 rfl rfl (fun q=>Jk Tryz.underlying4 (Bf rfl q) (Bf rfl q)) (Gt (BJ rfl rfl (fun h=>h)) (Gm rfl (Bl 61 rfl rfl (fun q=>Ah LJ rfl) (Bl 61 rfl rfl (fun q=>AG (Bf rfl q) A5 .m0 AP.l1 rfl rfl) (Bl 61 rfl rfl (fun q=>Aj (Bf rfl q) rfl) (Bl 61 rfl rfl (fun q=>AE (Bf rfl q)) ?_)))))))
 refine C3 (t:=65) rfl rfl rfl (fun qc q=>Ah LJ rfl) ?_
 refine C3 (t:=65) rfl rfl rfl (fun qc q=>AG (Bf rfl (by rw [qc,q];rfl)) A5 .m0 AP.l1 rfl rfl) ?_
 refine C3 (t:=65) rfl rfl rfl (fun qc q=>CI (Bf rfl (by rw [qc,q];rfl)) rfl) ?_
 refine C3 (t:=65) rfl rfl rfl (fun qc q=>AE (Bf rfl (by rw [qc,q];rfl))) ?_
 refine DP (t:=69) rfl rfl rfl (fun qc q=>Ah LJ rfl) ?_
 refine DP (t:=69) rfl rfl rfl (fun qc q=>AG (Bf rfl (by rw [qc,q];rfl)) A5 .m0 AP.l1 rfl rfl) ?_
 refine DP (t:=69) rfl rfl rfl (fun qc q=>IK (Bf rfl (by rw [qc,q];rfl)) rfl) ?_
 refine C3 (t:=65) rfl rfl rfl (fun qc q=>BJ (Bf rfl (by rw [qc,q];rfl)) rfl (fun h=>by rw [qc,q,h];rfl)) ?_
 refine Bl 61 rfl rfl (fun q=>BS (Bf rfl q) rfl (fun h=>by rw [q,h];rfl)) ?_
 refine Gt (BJ rfl rfl (fun h=>h)) (Gm rfl (Bl 76 rfl rfl (fun q=>Ah Gw rfl) (Bl 76 rfl rfl (fun q=>AG (Bf rfl q) CP .m0 AP.l2 rfl rfl) (Bl 76 rfl rfl (fun q=>BH rfl Tryz.underlying9 (Bf rfl q)) (Bl 76 rfl rfl (fun q=>IK (Bf rfl q) rfl) (Gt (BJ rfl rfl (fun h=>h)) (Gm rfl ?_)))))))
 refine Bl 82 rfl rfl (fun q=>Ah Fq rfl) (Bl 82 rfl rfl (fun q=>AG (Bf rfl q) A5 .m0 AP.l0 rfl rfl) (Bl 82 rfl rfl (fun q=>CI (Bf rfl q) rfl) (Bl 82 rfl rfl (fun q=>AE (Bf rfl q)) ?_)))
 refine C3 (t:=86) rfl rfl rfl (fun qc q=>Ah Gw rfl) ?_
 refine C3 (t:=86) rfl rfl rfl (fun qc q=>AG (Bf rfl (by rw [qc,q];rfl)) CP .m0 AP.l2 rfl rfl) ?_
 refine C3 (t:=86) rfl rfl rfl (fun qc q=>Bt (Bf rfl (by rw [qc,q];rfl)) rfl) ?_
 refine Bl 82 rfl rfl (fun q=>BS (Bf rfl q) rfl (fun h=>by rw [q,h];rfl)) ?_
 refine Gt (BJ rfl rfl (fun h=>h)) (Gm rfl (Bl 92 rfl rfl (fun q=>Ah RD rfl) (Bl 92 rfl rfl (fun q=>AG (Bf rfl q) A5 .m0 AP.l5 rfl rfl) (Bl 92 rfl rfl (fun q=>CI (Bf rfl q) rfl) (Gt (BJ rfl rfl (fun h=>h)) (Gm rfl (Bl 97 rfl rfl (fun q=>Ah RD rfl) ?_)))))))
 refine Bl 97 rfl rfl (fun q=>AG (Bf rfl q) A5 .m0 AP.l5 rfl rfl) (Bl 97 rfl rfl (fun q=>IK (Bf rfl q) rfl) (Gt (BJ rfl rfl (fun h=>h)) (Ga rfl (Gn (.t1 2) (Ab ?_)))))
 refine AZ rfl (.tmp rfl .n) ?_
 intro w1 hS;refine⟨congrArg Value.bool ?_,hS.Am⟩;rw [hI13,c3];rfl
theorem C0 (verb opt:Int)(h0:0≤verb∧verb≤255)(h1:0≤opt∧opt≤255)(w:World):Eh Tryz.prog 74 #[.int .i64 verb, .int .i64 opt] w fun v w'=>v=BU (AP.V8 verb opt)∧CA w w':=by
 refine Ak [] [] Tryz.func74 rfl rfl rfl (St.start w []) ?_
 refine Gs (Ga rfl (Gn (.t2 0 1) (Gs (Gm rfl ?_))))
 refine Gt (Nb Tryz.underlying5 Tryz.underlying3 rfl (IntWalk.u8_in _ (by omega))) ?_
 refine Gm rfl ?_
 refine Gt (Nb Tryz.underlying5 Tryz.underlying3 rfl (IntWalk.u8_in _ (by omega))) ?_
 refine Xm (cs:=CH (n:=3) aD (Vector.replicate 3 default)) rfl Tryz.underlying105 Vt Z2 (by decide) (by decide) (by kernel_rfl) (.cons (AU.arr (n:=3) (i:=0) cX (by decide) (by decide)) rfl rfl rfl (.cons (AU.arr (n:=3) (i:=1) cX (by decide) (by decide)) rfl rfl rfl (.cons (AU.arr (n:=3) (i:=2) cX (by decide) (by decide)) rfl rfl rfl .nil))) ((IG cX).len _) (fun b1=>?_)
 refine Gt (OW (s:=AP.V8 verb opt) (by rw [show(AP.V8 verb opt).flatMap DR = [.int .u8 255, .int .u8 verb, .int .u8 opt] from by simp [AP.V8,DR,TI h0.1 h0.2,TI h1.1 h1.2]];rfl) Tryz.underlying105 Tryz.underlying9 Tryz.underlying5 rfl (Kn.own .m0)) ?_
 refine Ga rfl (Gn (.t1 4) (Ab ?_))
 refine AZ rfl (.tmp rfl .n) ?_
 intro w1 hS;refine⟨?_,hS.Am⟩;rfl
theorem Lb (X:AP)(opt:Int)(w:World):Eh Tryz.prog 80 #[.agg X.enc.toArray, .int .i64 opt] w fun v w'=>v = .tuple #[.agg (X.DM opt).1.enc.toArray,BU (X.DM opt).2.1, .int .i64 (X.DM opt).2.2]∧CA w w':=by
 refine Ak [] [] Tryz.func80 rfl rfl rfl (St.start w []) ?_
 refine Gs ?_
 refine B5 rfl rfl rfl (fun b1=>?_)
 refine BD rfl Zg rfl (fun b2=>?_)
 refine Ga rfl (Ga rfl (Gn (.t3 1 2 4) (Gs (Gm rfl ?_))))
 refine BA rfl Zu (.c rfl .n) (fun w hS=>Fu _ w) ?_
 refine Gm rfl (Gt (AN rfl rfl) (Gt (AN rfl rfl) (Gt (AN rfl rfl) (Ga rfl (Ga rfl (Ga rfl (Gn (.t5 1 2 4 7 8) ?_)))))))
 refine Ap (Ae (Gs (Gt (AY rfl D5 .m1 (AU.id AP.fl.len AP.fl.one) rfl) ?_)))
 refine BA rfl Zl (.c rfl .n) (fun w hS=>GF _ w) ?_
 refine Gt (BQ rfl) (Ga rfl (Gn (.t6 1 2 4 7 8 16) ?_))
 refine Gc (fun c1=>?_) (fun c1=>?_)
 ·
  refine Gs (Gt (AY rfl D5 .m1 (AU.id AP.fl.len AP.fl.one) rfl) ?_)
  refine AS (AK (AU.id AP.fl.len AP.fl.one) rfl rfl rfl Ka rfl .h) ?_
  refine Ga rfl (Ga rfl (Gn (.t3 4 5 6) (Ab (AT (AD ?_)))))
  refine AZ rfl (.cell rfl .m0 (.inl ⟨(by rw [AP.fl.len];exact D5),rfl⟩) (.tmp rfl (.tmp rfl .n))) ?_
  intro w1 hS;refine⟨?_,hS.Am⟩;simp only [AP.DM,c1,↓reduceIte,Bool.false_eq_true];rfl
 have c1p:=kz c1
 refine Gs (Gm rfl (Gt (BQ rfl) (Ga rfl (Gn (.t5 1 2 4 7 21) ?_))))
 refine Gc (fun c2=>?_) (fun c2=>?_)
 ·
  refine Gs (Gt (AY rfl D5 .m1 (AU.id AP.fl.len AP.fl.one) rfl) ?_)
  refine AS (AK (AU.id AP.fl.len AP.fl.one) rfl rfl rfl Ka rfl .h) ?_
  refine Ga rfl (Ga rfl (Gn (.t3 4 5 6) (Ab (AT (AD ?_)))))
  refine AZ rfl (.cell rfl .m0 (.inl ⟨(by rw [AP.fl.len];exact D5),rfl⟩) (.tmp rfl (.tmp rfl .n))) ?_
  intro w1 hS;refine⟨?_,hS.Am⟩;simp only [AP.DM,c1,c2,↓reduceIte,Bool.false_eq_true];rfl
 have c2p:=kz c2
 have hk:=AP.N6 (opt:=opt) (by simpa using c2)
 have hk1:0≤(AP.place opt).1∧(AP.place opt).1 < 3:=by rcases hk with ⟨_,e⟩ | ⟨_,e⟩<;>rw [e]<;>decide
 have ho:0≤opt∧opt≤255:=by rcases hk with ⟨e,_⟩ | ⟨e,_⟩<;>omega
 refine Gs (Gm rfl (Gt (Ah K7 rfl) ?_))
 refine Gt (AQ Ko rfl rfl (by omega) (by omega)) ?_
 refine Gt (AG rfl A5 .m1 (AP.l3.comp (AU.ar (n:=3) B2 (by omega))) rfl rfl) ?_
 refine Gt (Ce rfl rfl) (Ga rfl (Gn (.t5 1 2 4 7 25) ?_))
 refine Gc (fun c3=>?_) (fun c3=>?_)
 ·
  refine Gs (Gt (AY rfl D5 .m1 (AU.id AP.fl.len AP.fl.one) rfl) ?_)
  refine AS (AK (AU.id AP.fl.len AP.fl.one) rfl rfl rfl Ka rfl .h) ?_
  refine Ga rfl (Ga rfl (Gn (.t3 4 5 6) (Ab (AT (AD ?_)))))
  refine AZ rfl (.cell rfl .m0 (.inl ⟨(by rw [AP.fl.len];exact D5),rfl⟩) (.tmp rfl (.tmp rfl .n))) ?_
  intro w1 hS;refine⟨?_,hS.Am⟩;simp only [AP.DM,c1,c2,c3,↓reduceIte,Bool.false_eq_true];rfl
 have c3p:=kz c3
 refine Aa ?_
 refine AB (.t4 1 2 4 7) ?_
 refine AV (AA (Gs (Gm rfl (Gt (Ah K7 rfl) ?_))))
 refine Gt (AQ Ko rfl rfl (by omega) (by omega)) ?_
 refine AS (AK (AP.l3.comp (AU.ar (n:=3) B2 (by omega))) rfl rfl rfl DB rfl (.t .h)) ?_
 refine Gn (.t3 1 2 4) (Ap ?_)
 refine BE (N:=6) [0,0,2,7,15,31] mix (by kernel_rfl) rfl ?_
 refine Pf 0 rfl (AY rfl D5 .m1 (AU.id AP.fl.len AP.fl.one) rfl) (Pf 1 rfl (AE rfl) ?_)
 refine BN 2 rfl rfl (by kernel_rfl) (Lj (K4 (D7 R0 (.c rfl (.c rfl .n)) (fun w hS=>C0 _ _ (by first | assumption | omega) (by first | assumption | omega) w)))) ?_
 refine An 3 rfl (by kernel_rfl) ?_
 refine AS (AK (AU.id AP.fl.len AP.fl.one) rfl rfl rfl Ka rfl .h) ?_
 refine BO rfl ⟨?_,?_⟩
 · exact(Pk (Pk (Pk Ar)))
 refine Pf 4 rfl (A0 rfl) (Pf 5 rfl (A0 rfl) ?_)
 refine A4 (by kernel_rfl) ?_
 refine AB (.t3 4 5 6) ?_
 refine AA (Ab ?_)
 refine AZ rfl (.cell rfl .m0 (.inl ⟨(by rw [AP.fl.len];exact D5),rfl⟩) (.tmp rfl (.tmp rfl .n))) ?_
 intro w1 hS;refine⟨?_,hS.Am⟩;simp only [AP.DM,c1,c2,c3,↓reduceIte,Bool.false_eq_true];rfl
theorem M4 (X:AP)(opt:Int)(w:World):Eh Tryz.prog 81 #[.agg X.enc.toArray, .int .i64 opt] w fun v w'=>v = .tuple #[.agg (X.Ask opt).1.enc.toArray,BU (X.Ask opt).2.1, .int .i64 (X.Ask opt).2.2]∧CA w w':=by
 refine Ak [] [] Tryz.func81 rfl rfl rfl (St.start w []) ?_
 refine Gs ?_
 refine B5 rfl rfl rfl (fun b1=>?_)
 refine BD rfl Zg rfl (fun b2=>?_)
 refine Ga rfl (Ga rfl (Gn (.t3 1 2 4) (Gs (Gm rfl ?_))))
 refine BA rfl Zu (.c rfl .n) (fun w hS=>Fu _ w) ?_
 refine Gm rfl (Gt (AN rfl rfl) (Gt (AN rfl rfl) (Gt (AN rfl rfl) (Ga rfl (Ga rfl (Ga rfl (Gn (.t5 1 2 4 7 9) ?_)))))))
 refine Ap (Ae (Gs (Gt (AY rfl D5 .m1 (AU.id AP.fl.len AP.fl.one) rfl) ?_)))
 refine BA rfl Zl (.c rfl .n) (fun w hS=>GF _ w) ?_
 refine Gt (BQ rfl) (Ga rfl (Gn (.t6 1 2 4 7 9 16) ?_))
 refine Gc (fun c1=>?_) (fun c1=>?_)
 ·
  refine Gs (Gt (AY rfl D5 .m1 (AU.id AP.fl.len AP.fl.one) rfl) ?_)
  refine AS (AK (AU.id AP.fl.len AP.fl.one) rfl rfl rfl Ka rfl .h) ?_
  refine Ga rfl (Ga rfl (Gn (.t3 4 5 6) (Ab (AT (AD ?_)))))
  refine AZ rfl (.cell rfl .m0 (.inl ⟨(by rw [AP.fl.len];exact D5),rfl⟩) (.tmp rfl (.tmp rfl .n))) ?_
  intro w1 hS;refine⟨?_,hS.Am⟩;simp only [AP.Ask,c1,↓reduceIte,Bool.false_eq_true];rfl
 have c1p:=kz c1
 refine Gs (Gm rfl (Gt (BQ rfl) (Ga rfl (Gn (.t5 1 2 4 7 21) ?_))))
 refine Gc (fun c2=>?_) (fun c2=>?_)
 ·
  refine Gs (Gt (AY rfl D5 .m1 (AU.id AP.fl.len AP.fl.one) rfl) ?_)
  refine AS (AK (AU.id AP.fl.len AP.fl.one) rfl rfl rfl Ka rfl .h) ?_
  refine Ga rfl (Ga rfl (Gn (.t3 4 5 6) (Ab (AT (AD ?_)))))
  refine AZ rfl (.cell rfl .m0 (.inl ⟨(by rw [AP.fl.len];exact D5),rfl⟩) (.tmp rfl (.tmp rfl .n))) ?_
  intro w1 hS;refine⟨?_,hS.Am⟩;simp only [AP.Ask,c1,c2,↓reduceIte,Bool.false_eq_true];rfl
 have c2p:=kz c2
 have hk:=AP.LF (opt:=opt) (by simpa using c2)
 have hk1:0≤(AP.place opt).1∧(AP.place opt).1 < 3:=by rcases hk with ⟨_,e⟩ | ⟨_,e⟩<;>rw [e]<;>decide
 have ho:0≤opt∧opt≤255:=by rcases hk with ⟨e,_⟩ | ⟨e,_⟩<;>omega
 refine Gs (Gm rfl (Gt (Ah J9 rfl) ?_))
 refine Gt (AQ Ko rfl rfl (by omega) (by omega)) ?_
 refine Gt (AG rfl A5 .m1 (AP.l4.comp (AU.ar (n:=3) B2 (by omega))) rfl rfl) ?_
 refine Gt (Ce rfl rfl) (Ga rfl (Gn (.t5 1 2 4 7 25) ?_))
 refine Gc (fun c3=>?_) (fun c3=>?_)
 ·
  refine Gs (Gt (AY rfl D5 .m1 (AU.id AP.fl.len AP.fl.one) rfl) ?_)
  refine AS (AK (AU.id AP.fl.len AP.fl.one) rfl rfl rfl Ka rfl .h) ?_
  refine Ga rfl (Ga rfl (Gn (.t3 4 5 6) (Ab (AT (AD ?_)))))
  refine AZ rfl (.cell rfl .m0 (.inl ⟨(by rw [AP.fl.len];exact D5),rfl⟩) (.tmp rfl (.tmp rfl .n))) ?_
  intro w1 hS;refine⟨?_,hS.Am⟩;simp only [AP.Ask,c1,c2,c3,↓reduceIte,Bool.false_eq_true];rfl
 have c3p:=kz c3
 refine Aa ?_
 refine AB (.t4 1 2 4 7) ?_
 refine AV (AA (Gs (Gm rfl (Gt (Ah J9 rfl) ?_))))
 refine Gt (AQ Ko rfl rfl (by omega) (by omega)) ?_
 refine AS (AK (AP.l4.comp (AU.ar (n:=3) B2 (by omega))) rfl rfl rfl DB rfl (.t .h)) ?_
 refine Gn (.t3 1 2 4) (Ap ?_)
 refine BE (N:=6) [0,0,2,7,15,31] mix (by kernel_rfl) rfl ?_
 refine Pf 0 rfl (AY rfl D5 .m1 (AU.id AP.fl.len AP.fl.one) rfl) (Pf 1 rfl (AE rfl) ?_)
 refine BN 2 rfl rfl (by kernel_rfl) (Lj (K4 (D7 R0 (.c rfl (.c rfl .n)) (fun w hS=>C0 _ _ (by first | assumption | omega) (by first | assumption | omega) w)))) ?_
 refine An 3 rfl (by kernel_rfl) ?_
 refine AS (AK (AU.id AP.fl.len AP.fl.one) rfl rfl rfl Ka rfl .h) ?_
 refine BO rfl ⟨?_,?_⟩
 · exact(Pk (Pk (Pk Ar)))
 refine Pf 4 rfl (A0 rfl) (Pf 5 rfl (A0 rfl) ?_)
 refine A4 (by kernel_rfl) ?_
 refine AB (.t3 4 5 6) ?_
 refine AA (Ab ?_)
 refine AZ rfl (.cell rfl .m0 (.inl ⟨(by rw [AP.fl.len];exact D5),rfl⟩) (.tmp rfl (.tmp rfl .n))) ?_
 intro w1 hS;refine⟨?_,hS.Am⟩;simp only [AP.Ask,c1,c2,c3,↓reduceIte,Bool.false_eq_true];rfl
theorem Qv (b:Nat)(V:AL)(ls:Vector BI 4)(ev:List Ing.Event)(k:Int)(n m:Nat)(hk:0≤k∧k < 4)(hF:AI.Fit (A3 V ls ev) n m)(hn:n≤500000)(hm:m≤500000):FK Tryz.prog 61 #[.pointer (some ⟨b,0,none⟩), .pointer (some ⟨b,165+k.toNat * 22,none⟩)] [Ac.box b 101 (AL.enc V),Ac.Dv (CG 9 (AL.Ao V) ls),Ac.own (AL.last V) 56 16 ((ev).flatMap Ing.Event.enc)] (fun w=>(GV 2 Fo w∧2 ∉ Cf [Ac.box b 101 (AL.enc V),Ac.Dv (CG 9 (AL.Ao V) ls),Ac.own (AL.last V) 56 16 ((ev).flatMap Ing.Event.enc)])∧(GV 0 AH.DG w∧0 ∉ Cf [Ac.box b 101 (AL.enc V),Ac.Dv (CG 9 (AL.Ao V) ls),Ac.own (AL.last V) 56 16 ((ev).flatMap Ing.Event.enc)])∧(Gu 7 w∧7 ∉ Cf [Ac.box b 101 (AL.enc V),Ac.Dv (CG 9 (AL.Ao V) ls),Ac.own (AL.last V) 56 16 ((ev).flatMap Ing.Event.enc)])∧(Gu 8 w∧8 ∉ Cf [Ac.box b 101 (AL.enc V),Ac.Dv (CG 9 (AL.Ao V) ls),Ac.own (AL.last V) 56 16 ((ev).flatMap Ing.Event.enc)])) (fun v B=>∃ V' ls' ev',v = .tuple #[]∧A3 V' ls' ev'=AI.K1 (A3 V ls ev) k∧B = [Ac.box b 101 (AL.enc V'),Ac.Dv (CG 9 (AL.Ao V') ls'),Ac.own (AL.last V') 56 16 ((ev').flatMap Ing.Event.enc)]):=by
 intro w hS0 hH
 obtain⟨⟨gl0,gm0⟩,⟨gl1,gm1⟩,⟨gl2,gm2⟩,⟨gl3,gm3⟩⟩:=hH
 refine Ak _ _ Tryz.func61 rfl rfl rfl (hS0) ?_
 refine Ap ?_
 refine E4 (k:=k) hk.1 hk.2 (fun sv sl hsv hlv hln=>?_)
 refine AJ (Gm rfl (Gt (BC VL Vu rfl (.cons A2.l0 rfl rfl rfl (.cons A2.l1 rfl rfl rfl .nil))) (Gt (BV rfl) ?_)))
 refine AS (AK (AU.BL V hk.1 hk.2) rfl rfl rfl TM rfl (.t (.t (.t .h)))) ?_
 refine Gn (.t2 0 1) (CB ?_)
 refine Gt (EU Tryz.underlying145 DB ai rfl (.cons (AU.arr (n:=2) (i:=0) B2 (by decide) (by decide)) rfl rfl rfl (.cons (AU.arr (n:=2) (i:=1) B2 (by decide) (by decide)) rfl rfl rfl .nil))) ?_
 refine Gm rfl (AR (AA (Ae ?_)))
 refine Bo (.t4 12 0 1 11) ?_
 refine Bh (.t (.t (.t .h))) ?_
 refine Dt (fun(j:Int) (t:AP) (g:Page.Pg)=>0≤j∧j≤2∧t=(Ev j.toNat).1∧g=(Ev j.toNat).2) (fun(j:Int) (t:AP) (g:Page.Pg)=>(2 - j).toNat) (fun(j:Int) (t:AP) (g:Page.Pg)=> [(12, .int .i64 j)]) (fun(j:Int) (t:AP) (g:Page.Pg)=> [Ac.box b 101 (Jq V k (ER t g))]) (0) (default) (⟨0,false,[],false⟩) ?_ rfl rfl (fun j t g hI1=>?_)
 · exact⟨by omega,by omega,rfl,rfl⟩
 obtain⟨hI11,hI12,hI13,hI14⟩:=hI1
 refine Gs (Gt (A8 rfl rfl) (AR (AA (Ap ?_))))
 refine Gc (fun c1=>?_) (fun c1=>?_)
 ·
  have c1p:=kz c1
  refine Aa ?_
  refine AB (.t4 0 1 11 12) ?_
  refine AA (Ap (Ae (Gs ?_)))
  refine Gt (KN B2 Tryz.underlying145 DB A5 rfl rfl (by first | omega | exact hk.1 | exact hk.2 | (have h1:=FV t (Du j);have h2:=Hp (t.DM (Du j)).1 (Du j);dsimp only [Du,ER] at *;(try simp only [List.length_nil]);omega)) (by first | omega | exact hk.1 | exact hk.2 | (have h1:=FV t (Du j);have h2:=Hp (t.DM (Du j)).1 (Du j);dsimp only [Du,ER] at *;(try simp only [List.length_nil]);omega)) rfl) ?_
  refine Ga rfl (Gn (.t5 0 1 5 11 12) (Gs (Ga rfl (Ga rfl (Gn (.t6 0 1 5 7 11 12) (CB (Gm rfl ?_)))))))
  refine Gm rfl (Gt (BV rfl) (Gt (Ah K2 rfl) (Gt (AY rfl D5 .m0 ((AU.BL V hk.1 hk.2).comp A2.l2) rfl) (Gm rfl ?_))))
  refine BA rfl dE (.c rfl (.c rfl .n)) (fun w hS=>Lb _ _ w) ?_
  refine Gm rfl (Gt (AN rfl rfl) (Gt (AN rfl rfl) (Gt (AN rfl rfl) (Gt (BV rfl) (Gt (Ah K2 rfl) ?_)))))
  refine AS (AK ((AU.BL V hk.1 hk.2).comp A2.l2) rfl rfl rfl Ka rfl .h) ?_
  refine Ga rfl (Gn (.t7 0 1 5 6 7 11 12) (Gs (Gm rfl (Gt (Bt rfl rfl) (Gn (.t8 0 1 5 6 7 11 12 29) ?_)))))
  refine Gc (fun c2=>?_) (fun c2=>?_)
  ·
   have c2p:=kz c2
   refine AJ (Gm rfl (Gm rfl (Gt (BV rfl) (Gt (Ah K2 rfl) (Gt (AY rfl D5 .m0 ((AU.BL V hk.1 hk.2).comp A2.l2) rfl) (Gm rfl ?_))))))
   refine BA rfl cZ (.c rfl (.c rfl .n)) (fun w hS=>M4 _ _ w) ?_
   refine Gm rfl (Gt (AN rfl rfl) (Gt (AN rfl rfl) (Gt (AN rfl rfl) (Gt (BV rfl) (Gt (Ah K2 rfl) ?_)))))
   refine AS (AK ((AU.BL V hk.1 hk.2).comp A2.l2) rfl rfl rfl Ka rfl .h) ?_
   refine Ga rfl (Gn (.t6 0 1 6 7 11 12) (AJ (Gm rfl (Gm rfl (Gt (BV rfl) (Gt (Ah Dn rfl) (Gt (AY rfl Cr .m0 ((AU.BL V hk.1 hk.2).comp A2.l4) rfl) ?_)))))))
   refine Gm rfl (Gm rfl ?_)
   refine Gt (CU rfl rfl (by first | omega | exact hk.1 | exact hk.2 | (have h1:=FV t (Du j);have h2:=Hp (t.DM (Du j)).1 (Du j);dsimp only [Du,ER] at *;(try simp only [List.length_nil]);omega))) ?_
   refine BA rfl WH (.c rfl (.c rfl .n)) (fun w hS=>ES _ _ (by simp only [List.length_append];have h1:=FV t (Du j);have h2:=Hp (t.DM (Du j)).1 (Du j);dsimp only [Du,ER] at *;(try simp only [List.length_nil]);omega) w) ?_
   refine Gm rfl (Gt (AN rfl rfl) (Gt (AN rfl rfl) (Gt (BV rfl) (Gt (Ah Dn rfl) ?_))))
   refine AS (AK ((AU.BL V hk.1 hk.2).comp A2.l4) rfl rfl rfl FO rfl .h) ?_
   refine AR (AB (.t4 0 1 11 12) ?_)
   refine AV (AA ?_)
   refine GC (fun _=> .h) (congrArg (Jq V k) (show _=ER (II t (Du j)) (Ky t g (Du j)) from by rw [ER,Ky,show II t (Du j)=_ from BB c2,show MR t (Du j)=_ from BB c2];rfl)) ?_
   refine AJ ?_
   refine Gt (Aw rfl rfl (IntWalk.i64_in _ (by first | omega | exact hk.1 | exact hk.2 | (have h1:=FV t (Du j);have h2:=Hp (t.DM (Du j)).1 (Du j);dsimp only [Du,ER] at *;(try simp only [List.length_nil]);omega)))) ?_
   refine Gm rfl ?_
   refine AR (AB (.t4 0 1 11 12) ?_)
   refine Bw (j+1) _ _ ?_ ?_ (.t4 12 0 1 11) (.refl _)
   · exact⟨by omega,by omega,by rw [G7 hI11,← hI13,← hI14],by rw [G7 hI11,← hI13,← hI14]⟩
   · omega
  have c2p:=kz c2
  refine Aa ?_
  refine AB (.t6 0 1 6 7 11 12) ?_
  refine AA (AJ (Gm rfl (Gm rfl (Gt (BV rfl) (Gt (Ah Dn rfl) (Gt (AY rfl Cr .m0 ((AU.BL V hk.1 hk.2).comp A2.l4) rfl) (Gm rfl ?_)))))))
  refine Gm rfl ?_
  refine Gt (CU rfl rfl (by first | omega | exact hk.1 | exact hk.2 | (have h1:=FV t (Du j);have h2:=Hp (t.DM (Du j)).1 (Du j);dsimp only [Du,ER] at *;(try simp only [List.length_nil]);omega))) ?_
  refine BA rfl WH (.c rfl (.c rfl .n)) (fun w hS=>ES _ _ (by simp only [List.length_append];have h1:=FV t (Du j);have h2:=Hp (t.DM (Du j)).1 (Du j);dsimp only [Du,ER] at *;(try simp only [List.length_nil]);omega) w) ?_
  refine Gm rfl (Gt (AN rfl rfl) (Gt (AN rfl rfl) (Gt (BV rfl) (Gt (Ah Dn rfl) ?_))))
  refine AS (AK ((AU.BL V hk.1 hk.2).comp A2.l4) rfl rfl rfl FO rfl .h) ?_
  refine AR (AB (.t4 0 1 11 12) ?_)
  refine AV (AA ?_)
  refine GC (fun _=> .h) (congrArg (Jq V k) (show _=ER (II t (Du j)) (Ky t g (Du j)) from by rw [ER,Ky,show II t (Du j)=_ from AX c2,show MR t (Du j)=_ from AX c2];rfl)) ?_
  refine AJ ?_
  refine Gt (Aw rfl rfl (IntWalk.i64_in _ (by first | omega | exact hk.1 | exact hk.2 | (have h1:=FV t (Du j);have h2:=Hp (t.DM (Du j)).1 (Du j);dsimp only [Du,ER] at *;(try simp only [List.length_nil]);omega)))) ?_
  refine Gm rfl ?_
  refine AR (AB (.t4 0 1 11 12) ?_)
  refine Bw (j+1) _ _ ?_ ?_ (.t4 12 0 1 11) (.refl _)
  · exact⟨by omega,by omega,by rw [G7 hI11,← hI13,← hI14],by rw [G7 hI11,← hI13,← hI14]⟩
  · omega
 have c1p:=kz c1
 obtain rfl:j=2:=by omega
 refine Ba (AW (AW (Af ?_)))
 refine AB (.t2 0 1) ?_
 refine AA (Ap ?_)
 refine E0 A7 9 1 ?_
 refine E0 A7 9 1 ?_
 refine E0 A7 9 1 ?_
 refine EJ (.c (.t (.t .h)) (.c (.t .h) (.c .h (.c .h (.c (.t (.t (.t .h))) .n))))) ?_
 refine HA hk.1 hk.2 (by rfl) (by rfl) (by rfl) ?_
 refine AJ (Gm rfl (Gm rfl ?_))
 refine Ai rfl Sl (.c rfl (.c rfl (.c rfl .n))) (.c .h (.c .h (.c (.t (.t (.t .h))) .n))) (EI _ (AL.BL V k (ER t g)) (ls.put k ⟨[],[],[]⟩) ev k _ hk (by rw [Vector.CD hk.1 hk.2];exact Nat.zero_le _)) (fun v4 B hv=>?_)
 obtain⟨y5,y6,y7,rfl,y8,rfl⟩:=hv
 refine Gn (.t1 0) (AJ (Gm rfl ?_))
 refine BF rfl SO (.c rfl .n) (.c .h (.c .h (.c .h .n))) (Ds _ y5 y6 y7 (n+1) m (by rw [y8,(show A3 (AL.BL V k (ER t g)) (ls.put k ⟨[],[],[]⟩) ev=AI.set (A3 V ls ev) k (Cl (ER t g) YW) from IX V ls ev hk.1 hk.2 _ _)];exact(hF.comes hk.1 hk.2 t g).tell hk.1 hk.2 (show AI.Hm.length≤_ by decide)) (by omega) (by omega)) (fun w hS=>⟨gl0.pull gm0 hS (.c .h (.c .h (.c .h .n))),gl1.pull gm1 hS (.c .h (.c .h (.c .h .n))),gl2.pull gm2 hS (.c .h (.c .h (.c .h .n))),gl3.pull gm3 hS (.c .h (.c .h (.c .h .n)))⟩) (fun v9 B hv=>?_)
 obtain⟨y10,y11,y12,rfl,y13,rfl⟩:=hv
 refine AR ?_
 refine Bk rfl .n ?_
 intro w1 hS
 have hS:=(hS.perm (Ax.perm (.c .h (.c .h (.c .h .n))))).A1
 refine⟨_,⟨y10,y11,y12,rfl,?ga1,rfl⟩,hS⟩
 case ga1=>rw [y13,y8,(show A3 (AL.BL V k (ER t g)) (ls.put k ⟨[],[],[]⟩) ev=AI.set (A3 V ls ev) k (Cl (ER t g) YW) from IX V ls ev hk.1 hk.2 _ _),hI13,hI14];unfold AI.K1;rw [← OQ];rfl
theorem Es {α:Type}{ea:α→List Value}{o:Nat}{g:α→Int}{st:α→Int→α}(b V:Nat)(Y:α)(on:Bool)(opt yes no:Int)(h0:0≤yes∧yes≤255)(h1:0≤no∧no≤255)(h2:0≤opt∧opt≤255)(ln:AU ea Ay o 1 g st):JO Tryz.prog 75 #[.pointer (some ⟨b,o,none⟩), .bool on, .int .i64 opt, .int .i64 yes, .int .i64 no] [Ac.box b V (ea Y)] (fun v B=>v=BU (AP.Ig (g Y) on opt yes no)∧B = [Ac.box b V (ea (st Y (AP.YS on)))]):=by
 intro w hS0
 refine Ak _ _ Tryz.func75 rfl rfl rfl (hS0) ?_
 refine Gs (Ga rfl (Gn (.t5 0 1 2 3 4) (Gs (Gm rfl (Gt (BV rfl) (Gt (AG rfl A5 .m0 ln rfl rfl) (Ga rfl ?_)))))))
 refine Gn (.t6 0 1 2 3 4 11) (Gs (Gm rfl (Gt (BV rfl) ?_)))
 refine AS (AK ln rfl rfl rfl DB rfl .h) ?_
 refine Gn (.t6 0 1 2 3 4 11) (CB (Gm rfl (AR (AA ?_))))
 refine Gc (fun c1=>?_) (fun c1=>?_)
 ·
  have c1p:=kz c1
  refine AJ (Gm rfl (Gt (BV rfl) ?_))
  refine AS (AK ln rfl rfl rfl DB rfl .h) ?_
  refine Gn (.t5 1 2 3 4 11) (Ap (Ae (Gs (Gm rfl (Gm rfl (Bl 22 rfl rfl (fun q=>AE rfl) (Bl 22 rfl rfl (fun q=>Aj (Bf rfl q) rfl) ?_)))))))
  refine Gt (BJ rfl rfl (fun h=>h)) (Ga rfl (Gn (.t6 1 2 3 4 11 20) ?_))
  refine Gc (fun c2=>?_) (fun c2=>?_)
  ·
   have c2p:=kz c2
   refine Gs (Gm rfl (Gm rfl ?_))
   refine BA rfl R0 (.c rfl (.c rfl .n)) (fun w hS=>C0 _ _ (by first | assumption | omega) (by first | assumption | omega) w) ?_
   refine Ga rfl (Gn (.t1 10) (Ab (AT (AD ?_))))
   refine AZ rfl (.tmp rfl .n) ?_
   intro w1 hS
   have hS:=(hS.perm (Ax.perm (.c .h .n))).A1
   exact⟨_,⟨by clear hS;simp_all [AP.Ig,Uq],by simp only [AP.YS,ln.KA,c1,c2,↓reduceIte,Bool.false_eq_true]⟩,hS⟩
  have c2p:=kz c2
  refine Gs (Gm rfl (Gt (BQ rfl) (Gm rfl (Bl 32 rfl rfl (fun q=>AE rfl) (Bl 32 rfl rfl (fun q=>Aj (Bf rfl q) rfl) (Gt (BJ rfl rfl (fun h=>h)) (Ga rfl ?_)))))))
  refine Gn (.t3 2 4 29) ?_
  refine Gc (fun c3=>?_) (fun c3=>?_)
  ·
   have c3p:=kz c3
   refine Gs (Gm rfl (Gm rfl ?_))
   refine BA rfl R0 (.c rfl (.c rfl .n)) (fun w hS=>C0 _ _ (by first | assumption | omega) (by first | assumption | omega) w) ?_
   refine Ga rfl (Gn (.t1 10) (Ab (AT (AD ?_))))
   refine AZ rfl (.tmp rfl .n) ?_
   intro w1 hS
   have hS:=(hS.perm (Ax.perm (.c .h .n))).A1
   exact⟨_,⟨by clear hS;simp_all [AP.Ig,Uq],by simp only [AP.YS,ln.KA,c1,c2,c3,↓reduceIte,Bool.false_eq_true]⟩,hS⟩
  have c3p:=kz c3
  refine Aa ?_
  refine AB (.nil _) ?_
  refine AV (AA (Gs (Ga rfl (AR (AA (Ab ?_))))))
  refine AZ rfl (.tmp rfl .n) ?_
  intro w1 hS
  have hS:=(hS.perm (Ax.perm (.c .h .n))).A1
  exact⟨_,⟨by clear hS;simp_all [AP.Ig,Uq],by simp only [AP.YS,ln.KA,c1,c2,c3,↓reduceIte,Bool.false_eq_true]⟩,hS⟩
 have c1p:=kz c1
 refine Aa ?_
 refine AB (.t5 1 2 3 4 11) ?_
 refine AA (Ap (Ae (Gs (Gm rfl (Gm rfl (Bl 22 rfl rfl (fun q=>AE rfl) (Bl 22 rfl rfl (fun q=>Aj (Bf rfl q) rfl) ?_)))))))
 refine Gt (BJ rfl rfl (fun h=>h)) (Ga rfl (Gn (.t6 1 2 3 4 11 20) ?_))
 refine Gc (fun c4=>?_) (fun c4=>?_)
 ·
  have c4p:=kz c4
  refine Gs (Gm rfl (Gm rfl ?_))
  refine BA rfl R0 (.c rfl (.c rfl .n)) (fun w hS=>C0 _ _ (by first | assumption | omega) (by first | assumption | omega) w) ?_
  refine Ga rfl (Gn (.t1 10) (Ab (AT (AD ?_))))
  refine AZ rfl (.tmp rfl .n) ?_
  intro w1 hS
  have hS:=(hS.perm (Ax.perm (.c .h .n))).A1
  exact⟨_,⟨by clear hS;simp_all [AP.Ig,Uq],by simp only [AP.YS,ln.KA,c1,c4,↓reduceIte,Bool.false_eq_true]⟩,hS⟩
 have c4p:=kz c4
 refine Gs (Gm rfl (Gt (BQ rfl) (Gm rfl (Bl 32 rfl rfl (fun q=>AE rfl) (Bl 32 rfl rfl (fun q=>Aj (Bf rfl q) rfl) (Gt (BJ rfl rfl (fun h=>h)) (Ga rfl ?_)))))))
 refine Gn (.t3 2 4 29) ?_
 refine Gc (fun c5=>?_) (fun c5=>?_)
 ·
  have c5p:=kz c5
  refine Gs (Gm rfl (Gm rfl ?_))
  refine BA rfl R0 (.c rfl (.c rfl .n)) (fun w hS=>C0 _ _ (by first | assumption | omega) (by first | assumption | omega) w) ?_
  refine Ga rfl (Gn (.t1 10) (Ab (AT (AD ?_))))
  refine AZ rfl (.tmp rfl .n) ?_
  intro w1 hS
  have hS:=(hS.perm (Ax.perm (.c .h .n))).A1
  exact⟨_,⟨by clear hS;simp_all [AP.Ig,Uq],by simp only [AP.YS,ln.KA,c1,c4,c5,↓reduceIte,Bool.false_eq_true]⟩,hS⟩
 have c5p:=kz c5
 refine Aa ?_
 refine AB (.nil _) ?_
 refine AV (AA (Gs (Ga rfl (AR (AA (Ab ?_))))))
 refine AZ rfl (.tmp rfl .n) ?_
 intro w1 hS
 have hS:=(hS.perm (Ax.perm (.c .h .n))).A1
 exact⟨_,⟨by clear hS;simp_all [AP.Ig,Uq],by simp only [AP.YS,ln.KA,c1,c4,c5,↓reduceIte,Bool.false_eq_true]⟩,hS⟩
theorem JQ (b:Nat)(X:AP)(verb opt:Int)(h0:0≤opt∧opt≤255):JO Tryz.prog 56 #[.pointer (some ⟨b,0,none⟩), .int .i64 verb, .int .i64 opt] [Ac.box b 69 X.enc] (fun v B=>v=BU (X.B3 verb opt).2∧B = [Ac.box b 69 (X.B3 verb opt).1.enc]):=by
 intro w hS0
 refine Ak _ _ Tryz.func56 rfl rfl rfl (hS0) ?_
 refine Gs (Ga rfl (Gn (.t3 0 1 2) (Gs (Gm rfl ?_))))
 refine BA rfl Zu (.c rfl .n) (fun w hS=>Fu _ w) ?_
 refine Gm rfl (Gt (AN rfl rfl) (Gt (AN rfl rfl) (Gt (AN rfl rfl) (Ga rfl (Ga rfl (Ga rfl (Gn (.t6 0 1 2 7 8 9) ?_)))))))
 refine CB (Gm rfl (Gn (.t6 0 2 7 8 9 16) (Ae (Gs (Gt (Aj rfl rfl) (Ga rfl (Gn (.t7 0 2 7 8 9 16 17) ?_)))))))
 refine Gc (fun c1=>?_) (fun c1=>?_)
 ·
  have c1p:=kz c1
  refine CB (Gm rfl (Gt (BQ rfl) (Gn (.t4 0 2 7 20) ?_)))
  refine Gc (fun c2=>?_) (fun c2=>?_)
  ·
   have c2p:=kz c2
   refine Gs (Gm rfl ?_)
   refine BA rfl R0 (.c rfl (.c rfl .n)) (fun w hS=>C0 _ _ (by first | assumption | omega) (by first | assumption | omega) w) ?_
   refine Ga rfl (Gn (.t1 6) (Ab (AD (AT (AD ?_)))))
   refine AZ rfl (.tmp rfl .n) ?_
   intro w1 hS
   have hS:=(hS.perm (Ax.perm (.c .h .n))).A1
   exact⟨_,⟨by simp only [AP.B3,c1,c2,↓reduceIte,Bool.false_eq_true]<;>rfl,by simp only [AP.B3,c1,c2,↓reduceIte,Bool.false_eq_true]<;>rfl⟩,hS⟩
  have c2p:=kz c2
  have hk:=AP.N6 (opt:=opt) (by simpa using c2)
  have hk1:0≤(AP.place opt).1∧(AP.place opt).1 < 3:=by rcases hk with ⟨_,e⟩ | ⟨_,e⟩<;>rw [e]<;>decide
  refine Aa ?_
  refine AB (.t3 0 2 7) ?_
  refine AA (Gs (Gm rfl (Gm rfl (Gt (BV rfl) (Gt (Ah K7 rfl) ?_)))))
  refine Gt (AQ Ko rfl rfl (by omega) (by omega)) ?_
  refine Gm rfl ?_
  refine Ai rfl Ya (.c rfl (.c rfl (.c rfl (.c rfl (.c rfl .n))))) (.c .h .n) (Es _ _ _ _ _ _ _ (by first | assumption | omega) (by first | assumption | omega) (by first | assumption | omega) (AP.l3.comp (AU.ar (n:=3) B2 (by omega)))) (fun v1 B hv=>?_)
  obtain⟨rfl,rfl⟩:=hv
  refine Ga rfl (Gn (.t1 6) (Ab (AT (AD ?_))))
  refine AZ rfl (.tmp rfl .n) ?_
  intro w1 hS
  have hS:=(hS.perm (Ax.perm (.c .h .n))).A1
  exact⟨_,⟨by simp only [AP.B3,c1,c2,↓reduceIte,Bool.false_eq_true]<;>rfl,by simp only [AP.B3,c1,c2,↓reduceIte,Bool.false_eq_true]<;>rfl⟩,hS⟩
 have c1p:=kz c1
 refine Gs (Gt (Aj rfl rfl) (Ga rfl (Gn (.t7 0 2 7 8 9 16 30) ?_)))
 refine Gc (fun c3=>?_) (fun c3=>?_)
 ·
  have c3p:=kz c3
  refine Gs (Gm rfl (Gn (.t4 0 2 7 32) ?_))
  refine Gc (fun c4=>?_) (fun c4=>?_)
  ·
   have c4p:=kz c4
   have hk:=AP.N6 (opt:=opt) (by simpa using c4)
   have hk1:0≤(AP.place opt).1∧(AP.place opt).1 < 3:=by rcases hk with ⟨_,e⟩ | ⟨_,e⟩<;>rw [e]<;>decide
   refine Gs (Gm rfl (Gm rfl (Gt (BV rfl) (Gt (Ah K7 rfl) ?_))))
   refine Gt (AQ Ko rfl rfl (by omega) (by omega)) ?_
   refine Gm rfl ?_
   refine Ai rfl Ya (.c rfl (.c rfl (.c rfl (.c rfl (.c rfl .n))))) (.c .h .n) (Es _ _ _ _ _ _ _ (by first | assumption | omega) (by first | assumption | omega) (by first | assumption | omega) (AP.l3.comp (AU.ar (n:=3) B2 (by omega)))) (fun v2 B hv=>?_)
   obtain⟨rfl,rfl⟩:=hv
   refine Ga rfl (Gn (.t1 6) (Ab (AT (AD ?_))))
   refine AZ rfl (.tmp rfl .n) ?_
   intro w1 hS
   have hS:=(hS.perm (Ax.perm (.c .h .n))).A1
   exact⟨_,⟨by simp only [AP.B3,c1,c3,c4,↓reduceIte,Bool.false_eq_true]<;>rfl,by simp only [AP.B3,c1,c3,c4,↓reduceIte,Bool.false_eq_true]<;>rfl⟩,hS⟩
  refine Aa ?_
  refine AB (.nil _) ?_
  refine AV (AA (Gs (Ga rfl (AR (AA (Ab ?_))))))
  refine AZ rfl (.tmp rfl .n) ?_
  intro w1 hS
  have hS:=(hS.perm (Ax.perm (.c .h .n))).A1
  exact⟨_,⟨by simp only [AP.B3,c1,c3,c4,↓reduceIte,Bool.false_eq_true]<;>rfl,by simp only [AP.B3,c1,c3,c4,↓reduceIte,Bool.false_eq_true]<;>rfl⟩,hS⟩
 have c3p:=kz c3
 refine Gs (Gt (Aj rfl rfl) (Ga rfl (Gn (.t6 0 2 7 9 16 40) ?_)))
 refine Gc (fun c5=>?_) (fun c5=>?_)
 ·
  have c5p:=kz c5
  refine CB (Gm rfl (Gt (BQ rfl) (Gn (.t4 0 2 7 43) ?_)))
  refine Gc (fun c6=>?_) (fun c6=>?_)
  ·
   have c6p:=kz c6
   refine Gs (Gm rfl ?_)
   refine BA rfl R0 (.c rfl (.c rfl .n)) (fun w hS=>C0 _ _ (by first | assumption | omega) (by first | assumption | omega) w) ?_
   refine Ga rfl (Gn (.t1 6) (Ab (AD (AT (AD ?_)))))
   refine AZ rfl (.tmp rfl .n) ?_
   intro w1 hS
   have hS:=(hS.perm (Ax.perm (.c .h .n))).A1
   exact⟨_,⟨by simp only [AP.B3,c1,c3,c5,c6,↓reduceIte,Bool.false_eq_true]<;>rfl,by simp only [AP.B3,c1,c3,c5,c6,↓reduceIte,Bool.false_eq_true]<;>rfl⟩,hS⟩
  have c6p:=kz c6
  have hk:=AP.LF (opt:=opt) (by simpa using c6)
  have hk1:0≤(AP.place opt).1∧(AP.place opt).1 < 3:=by rcases hk with ⟨_,e⟩ | ⟨_,e⟩<;>rw [e]<;>decide
  refine Aa ?_
  refine AB (.t3 0 2 7) ?_
  refine AA (Gs (Gm rfl (Gm rfl (Gt (BV rfl) (Gt (Ah J9 rfl) ?_)))))
  refine Gt (AQ Ko rfl rfl (by omega) (by omega)) ?_
  refine Gm rfl ?_
  refine Ai rfl Ya (.c rfl (.c rfl (.c rfl (.c rfl (.c rfl .n))))) (.c .h .n) (Es _ _ _ _ _ _ _ (by first | assumption | omega) (by first | assumption | omega) (by first | assumption | omega) (AP.l4.comp (AU.ar (n:=3) B2 (by omega)))) (fun v3 B hv=>?_)
  obtain⟨rfl,rfl⟩:=hv
  refine Ga rfl (Gn (.t1 6) (Ab (AT (AD ?_))))
  refine AZ rfl (.tmp rfl .n) ?_
  intro w1 hS
  have hS:=(hS.perm (Ax.perm (.c .h .n))).A1
  exact⟨_,⟨by simp only [AP.B3,c1,c3,c5,c6,↓reduceIte,Bool.false_eq_true]<;>rfl,by simp only [AP.B3,c1,c3,c5,c6,↓reduceIte,Bool.false_eq_true]<;>rfl⟩,hS⟩
 have c5p:=kz c5
 refine Gs (Gt (Aj rfl rfl) (Ga rfl (Gn (.t5 0 2 7 9 53) ?_)))
 refine Gc (fun c7=>?_) (fun c7=>?_)
 ·
  have c7p:=kz c7
  refine Gs (Gm rfl (Gn (.t4 0 2 7 55) ?_))
  refine Gc (fun c8=>?_) (fun c8=>?_)
  ·
   have c8p:=kz c8
   have hk:=AP.LF (opt:=opt) (by simpa using c8)
   have hk1:0≤(AP.place opt).1∧(AP.place opt).1 < 3:=by rcases hk with ⟨_,e⟩ | ⟨_,e⟩<;>rw [e]<;>decide
   refine Gs (Gm rfl (Gm rfl (Gt (BV rfl) (Gt (Ah J9 rfl) ?_))))
   refine Gt (AQ Ko rfl rfl (by omega) (by omega)) ?_
   refine Gm rfl ?_
   refine Ai rfl Ya (.c rfl (.c rfl (.c rfl (.c rfl (.c rfl .n))))) (.c .h .n) (Es _ _ _ _ _ _ _ (by first | assumption | omega) (by first | assumption | omega) (by first | assumption | omega) (AP.l4.comp (AU.ar (n:=3) B2 (by omega)))) (fun v4 B hv=>?_)
   obtain⟨rfl,rfl⟩:=hv
   refine Ga rfl (Gn (.t1 6) (Ab (AT (AD ?_))))
   refine AZ rfl (.tmp rfl .n) ?_
   intro w1 hS
   have hS:=(hS.perm (Ax.perm (.c .h .n))).A1
   exact⟨_,⟨by simp only [AP.B3,c1,c3,c5,c7,c8,↓reduceIte,Bool.false_eq_true]<;>rfl,by simp only [AP.B3,c1,c3,c5,c7,c8,↓reduceIte,Bool.false_eq_true]<;>rfl⟩,hS⟩
  refine Aa ?_
  refine AB (.nil _) ?_
  refine AV (AA (Gs (Ga rfl (AR (AA (Ab ?_))))))
  refine AZ rfl (.tmp rfl .n) ?_
  intro w1 hS
  have hS:=(hS.perm (Ax.perm (.c .h .n))).A1
  exact⟨_,⟨by simp only [AP.B3,c1,c3,c5,c7,c8,↓reduceIte,Bool.false_eq_true]<;>rfl,by simp only [AP.B3,c1,c3,c5,c7,c8,↓reduceIte,Bool.false_eq_true]<;>rfl⟩,hS⟩
 refine Aa ?_
 refine AB (.nil _) ?_
 refine AV (AA (Gs (Ga rfl (AR (AA (Ab ?_))))))
 refine AZ rfl (.tmp rfl .n) ?_
 intro w1 hS
 have hS:=(hS.perm (Ax.perm (.c .h .n))).A1
 exact⟨_,⟨by simp only [AP.B3,c1,c3,c5,c7,↓reduceIte,Bool.false_eq_true]<;>rfl,by simp only [AP.B3,c1,c3,c5,c7,↓reduceIte,Bool.false_eq_true]<;>rfl⟩,hS⟩
theorem G5 (b:Nat)(X:AP)(c:UInt8)(h0:X.sub.length≤16):JO Tryz.prog 57 #[.pointer (some ⟨b,0,none⟩), .int .u8 (c.toNat:Int)] [Ac.box b 69 X.enc] (fun v B=>v = .tuple #[]∧B = [Ac.box b 69 (X.collect c).enc]):=by
 intro w hS0
 refine Ak _ _ Tryz.func57 rfl rfl rfl (hS0) ?_
 refine Gs (Gm rfl (Gt (BV rfl) (Gt (Ah Gw rfl) (Gt (AG rfl CP .m0 AP.l2 rfl rfl) (Gt (BH rfl Tryz.underlying9 rfl) (Gt (A8 rfl rfl) (Gn (.t3 0 1 9) ?_)))))))
 refine Gc (fun c1=>?_) (fun c1=>?_)
 ·
  have c1p:=kz c1
  refine BE (N:=11) [0,1,3,7,0,16,48,127,255,511,1023] mix (by kernel_rfl) rfl ?_
  refine Pf 0 rfl (AE rfl) (Pf 1 rfl (BV rfl) (Pf 2 rfl (Ah Gw rfl) (Pf 3 rfl (AG rfl CP .m0 AP.l2 rfl rfl) (Pf 4 rfl (AE rfl) ?_))))
  refine An 5 rfl (by kernel_rfl) ?_
  refine TZ rfl Tryz.underlying105 Vt Z2 rfl (by decide) (by decide) rfl rfl rfl (fun b1=>?_)
  refine Bp rfl ⟨?_,?_⟩
  · exact(Pk (Po rfl (AG rfl CP .m1 AP.l2 rfl rfl) rfl rfl (Po rfl (Ah Gw rfl) rfl rfl (Po rfl (BV rfl) rfl rfl (Po rfl (AE rfl) rfl rfl Ar)))))
  refine Pf 6 rfl (OW (s:= [c]) rfl Tryz.underlying105 Tryz.underlying9 Tryz.underlying5 rfl (Kn.own .m0)) ?_
  refine Pf 7 rfl (CU rfl rfl (by simp only [List.length_cons,List.length_nil];omega)) ?_
  refine Pf 8 rfl (BV rfl) (Pf 9 rfl (Ah Gw rfl) ?_)
  refine An 10 rfl (by kernel_rfl) ?_
  refine AS (AK AP.l2 rfl rfl rfl Em rfl (.t .h)) ?_
  refine BO rfl ⟨?_,?_⟩
  · exact(Pk (Pk (Pk (Pk (Pk (Pk (Pk (Pk (Pk Ar)))))))))
  refine A4 (by kernel_rfl) ?_
  refine Bk rfl .n ?_
  intro w1 hS
  have hS:=(hS.perm (Ax.perm (.c (.t .h) .n))).A1
  exact⟨_,⟨rfl,by simp only [AP.collect,c1,↓reduceIte,Bool.false_eq_true]⟩,hS⟩
 refine Aa ?_
 refine Bk rfl .n ?_
 intro w1 hS
 have hS:=(hS.perm (Ax.perm (.c .h .n))).A1
 exact⟨_,⟨rfl,by simp only [AP.collect,c1,↓reduceIte,Bool.false_eq_true]⟩,hS⟩
theorem KZ (b:Nat)(X:AP):JO Tryz.prog 58 #[.pointer (some ⟨b,0,none⟩)] [Ac.box b 69 X.enc] (fun v B=>v = .tuple #[]∧B = [Ac.box b 69 X.measure.enc]):=by
 intro w hS0
 refine Ak _ _ Tryz.func58 rfl rfl rfl (hS0) ?_
 refine Gs (Gm rfl (Gt (BV rfl) (Gt (Ah Gw rfl) (Gt (AG rfl CP .m0 AP.l2 rfl rfl) (Gt (BH rfl Tryz.underlying9 rfl) (Gt (Aj rfl rfl) (Gm rfl ?_)))))))
 refine Bl 8 rfl rfl (fun q=>AE rfl) (Bl 8 rfl rfl (fun q=>BV (Bf rfl q)) (Bl 8 rfl rfl (fun q=>Ah Gw (Bf rfl q)) (Bl 8 rfl rfl (fun q=>AG (Bf rfl q) CP .m0 AP.l2 rfl rfl) ?_)))
 refine Bl 8 rfl rfl (fun q=>by have q1:=q;(try simp at q1);exact Bm Tryz.underlying9 (Bf rfl q) rfl (by decide) (by omega)) ?_
 refine Bl 8 rfl rfl (fun q=>Aj (Bf rfl q) rfl) (Gt (BJ rfl rfl (fun h=>h)) (Gm rfl (Bl 16 rfl rfl (fun q=>AE rfl) (Bl 16 rfl rfl (fun q=>BV (Bf rfl q)) (Bl 16 rfl rfl (fun q=>Ah J9 (Bf rfl q)) ?_)))))
 refine Bl 16 rfl rfl (fun q=>AQ Ko (Bf rfl q) rfl (by decide) (by decide)) ?_
 refine Bl 16 rfl rfl (fun q=>AG (Bf rfl q) A5 .m0 (AP.l4.comp (AU.arr (n:=3) B2 (by decide) (by decide))) rfl rfl) ?_
 refine Bl 16 rfl rfl (fun q=>Aj (Bf rfl q) rfl) (Gt (BJ rfl rfl (fun h=>h)) (Gn (.t2 0 23) ?_))
 refine Gc (fun c1=>?_) (fun c1=>?_)
 ·
  have c1p:=kz c1
  refine BE (N:=19) [0,0,2,6,14,30,62,126,0,256,768,1792,3840,7936,16382,32766,65535,131071,262143] mix (by kernel_rfl) rfl ?_
  refine Pf 0 rfl (AE rfl) (Pf 1 rfl (AE rfl) (Pf 2 rfl (BV rfl) (Pf 3 rfl (Ah Gw rfl) (Pf 4 rfl (AG rfl CP .m0 AP.l2 rfl rfl) ?_))))
  refine Pf 5 rfl (Bm Tryz.underlying9 rfl rfl (by decide) (by omega)) ?_
  refine Pf 6 rfl (TF Tryz.underlying3 Tryz.underlying5 rfl) (Pf 7 rfl (YM rfl rfl) (Pf 8 rfl (AE rfl) (Pf 9 rfl (BV rfl) (Pf 10 rfl (Ah Gw rfl) (Pf 11 rfl (AG rfl CP .m0 AP.l2 rfl rfl) ?_)))))
  refine Pf 12 rfl (Bm Tryz.underlying9 rfl rfl (by decide) (by omega)) ?_
  refine Pf 13 rfl (TF Tryz.underlying3 Tryz.underlying5 rfl) (Pf 14 rfl (Zi rfl rfl) (Pf 15 rfl (L5 rfl rfl) (Pf 16 rfl (BV rfl) (Pf 17 rfl (Ah RD rfl) ?_))))
  refine An 18 rfl (by kernel_rfl) ?_
  refine AS (AK AP.l5 rfl rfl rfl DB rfl .h) ?_
  refine BO rfl ⟨?_,?_⟩
  · exact(Pk (Pk (Pk (Pk (Pk (Pk (Pk (Pk (Pk (Pk (Pk (Pk (Pk (Pk (Pk (Pk (Pk (Pk Ar))))))))))))))))))
  refine A4 (by kernel_rfl) ?_
  refine Bk rfl .n ?_
  intro w1 hS
  have hS:=(hS.perm (Ax.perm (.c .h .n))).A1
  exact⟨_,⟨rfl,by rw [show X.measure=_ from BB c1];rfl⟩,hS⟩
 refine Aa ?_
 refine Bk rfl .n ?_
 intro w1 hS
 have hS:=(hS.perm (Ax.perm (.c .h .n))).A1
 exact⟨_,⟨rfl,by rw [show X.measure=_ from AX c1]⟩,hS⟩
end Go.Proofs.YtoidpggbbfncpaaGreatDoor
